/- Walks, by program (wip/tools). -/
import Derived.Test.YtkhokmfjnjfojaaL7
set_option linter.unusedVariables false
set_option linter.unusedSimpArgs false
set_option linter.unusedSectionVars false
set_option linter.unnecessarySimpa false
namespace Go.Fip
open Go.Proofs Go.RowKit

set_option maxHeartbeats 1000000 in
theorem c6 {v vb u : Value} {l by_ : List Int} {VV : List SV} {RR : List (List Int)} {w : World} (h0 : Rd encI 1 v l w) (hby : Rd encB 1 vb by_ w) (hb5 : ∀ n ∈ by_, 0 ≤ n ∧ n ≤ 255) (ha : RowsU u VV RR w)  :
    Fn Try.prog 6 [v, vb, u].toArray w (fun u _ => u = .bool true) := by
  refine fn_of' (args := [v, vb, u]) Try.func6 rfl (ent Try.func6 (by kernel_rfl) rfl) rfl rfl (fun hH => ?_)
  refine seq (region (ops_y hH rfl rfl (yv_assign rfl) (ops_nil (thn_n (seq (seq ?_))))))
  by_cases hc1 : Q.ckW l = 0
  · skip
    have hc0 : Q.ckW l = 0 := ‹_›
    obtain ⟨hl12, hw⟩ := Q.ckW_w hc0
    refine region (ops_y hH rfl rfl (yv_move rfl) ?_)
    refine op_fnV rfl rfl rfl hH (c41 (h0.now hH (n := 0) rfl)) (fun w2 hH3 => ?_)
    refine ops_y hH3 rfl rfl (yv_castB (bnot_f (decide_eq_true hc1)) (yv_not rfl)) ?_
    refine ops_y hH3 rfl rfl (yv_move rfl) (guard_yes rfl rfl rfl (ops_y hH3 rfl rfl (yv_move rfl) (guard_yes rfl rfl rfl ?_)))
    refine ops_y hH3 rfl rfl (yv_len T.sl44 rfl ((hby.now hH3 (n := 0) rfl)).is) ?_
    refine guard_yes rfl rfl rfl ?_
    refine ops_y hH3 rfl rfl (yv_gtr rfl rfl) ?_
    refine ops_y hH3 rfl rfl (yv_pick_f rfl rfl rfl) ?_
    refine ops_y hH3 rfl rfl (yv_move rfl) ?_
    by_cases hc4 : 60 < (by_.length : Int)
    · skip
      refine guard_no rfl rfl (decide_eq_true hc4) rfl ?_
      refine guard_no rfl rfl (decide_eq_true hc4) rfl ?_
      refine ops_y hH3 rfl rfl (yv_pick_t rfl (decide_eq_true hc4) rfl) ?_
      refine ops_nil (thn_n ?_)
      refine cond_t rfl rfl ?_
      refine seq (region ?_)
      refine op_fnV rfl rfl rfl hH3 (c16) (fun w5 hH6 => ?_)
      refine ops_y hH6 rfl rfl (yv_assign rfl) (ops_nil (thn_n (ret (thn_r ?_))))
      refine fin hH6 (fun w' hf => (res1 rfl (show RV _ _ _ (.tmp 6) _ from rfl))) (fun w' hf => ?_)
      first | rfl | (exfalso; omega)
    · skip
      refine guard_yes rfl rfl (decide_eq_false hc4) ?_
      refine ops_y hH3 rfl rfl (yv_move rfl) ?_
      refine guard_yes rfl rfl (decide_eq_false hc4) ?_
      refine op_fnV rfl rfl rfl hH3 (c42u (ha.now hH3 (n := 0) rfl)) (fun w7 hH8 => ?_)
      refine ops_y hH8 rfl rfl (yv_pick_f rfl (decide_eq_false hc4) rfl) ?_
      refine ops_nil (thn_n ?_)
      by_cases hc9 : Q.wideB RR = true
      · skip
        refine cond_t rfl hc9 ?_
        refine seq (region ?_)
        refine op_fnV rfl rfl rfl hH8 (c16) (fun w10 hH11 => ?_)
        refine ops_y hH11 rfl rfl (yv_assign rfl) (ops_nil (thn_n (ret (thn_r ?_))))
        refine fin hH11 (fun w' hf => (res1 rfl (show RV _ _ _ (.tmp 6) _ from rfl))) (fun w' hf => ?_)
        first | rfl | (exfalso; omega)
      · skip
        have hwd := Q.wide_spec ‹¬ Q.wideB RR = true›
        refine cond_f rfl (Bool.eq_false_iff.2 hc9) ?_
        refine skip (thn_n (seq ?_))
        have hk1 := Q.le2 hc0
        have hk2 := Q.be2 hc0
        obtain ⟨hF1, hF2, hF3⟩ := Q.cost_first hc0
        have hFs := Q.F_sm (w := l) (s := 0) (e := l.length) (by omega) (Nat.zero_le _)
        have hFu : Q.Up (Q.F l 0 l.length) := fun x hx => by have := hFs x hx; omega
        have hT : Q.ckB l (Q.tab l) = ((Q.C l 0 l.length), 0) := by rw [Q.cb5 hc0 Q.tab_shaped (Q.tab_sized hw (by omega)) Q.tab_held]; exact congrArg (fun z : Int => (z, (0 : Int))) (Q.btw_tab (Nat.zero_le _) (Nat.le_refl _))
        have htl := Q.tab_length (l := l)
        have hrowB : ∀ i : Nat, i < (Q.tab l).length → (nth (Q.tab l) (i : Int)).length ≤ 1000000 := fun i hi => by rw [Q.tab_row (by omega)]; omega
        have hgs := Q.gr_size l.length l.length by_ (Nat.le_refl _)
        have hgl : (Q.T.dep 0 (Q.gr l.length by_)).length = l.length := by rw [Q.T.dep_length, hgs]
        have hgc := Q.ck_of_tree (t := Q.gr l.length by_) (by omega) (by omega)
        have hgu : Q.Up (Q.T.dep 0 (Q.gr l.length by_)) := fun x hx => by have := Q.T.dep_lt (Q.gr l.length by_) 0 x hx; omega
        have hk3 := Q.cost_tree (t := Q.gr l.length by_) hc0 hgs
        have hge := Q.cost_ge (w := l) (t := Q.gr l.length by_) hgs
        have hgiv : ¬ (Q.ckB l RR).2 = 0 ∨ (Q.ckB l RR).1 ≤ (Q.C l 0 l.length) := Q.given_le hc0
        refine region (ops_y hH8 rfl rfl (yv_move rfl) ?_)
        refine op_fnV rfl rfl rfl hH8 ((by have h := c25 (h0.now hH8 (n := 0) rfl) (by omega) (w := w7); simp only [hk1] at h; exact h)) (fun w12 hH13 => ?_)
        refine ops_y hH13 rfl rfl (yv_move rfl) (ops_y hH13 rfl rfl (yv_extract rfl rfl) (ops_y hH13 rfl rfl (yv_extract rfl rfl) (ops_y hH13 rfl rfl (yv_assign rfl) (ops_y hH13 rfl rfl (yv_assign rfl) (ops_nil (thn_n (seq (region (ops_y hH13 rfl rfl (yv_move rfl) ?_)))))))))
        refine op_fn rfl rfl rfl hH13 ((by have h := c27 (h0.now hH13 (n := 0) rfl) (by omega) (w := w12); simp only [hk2] at h; exact h)) (fun u16 w14 lo17 hi18 hH15 hv19 => ?_)
        obtain ⟨p21, hu, -⟩ := hv19
        subst hu
        have hH20 := Heap.tup2 hH15 (n := 0) rfl
        refine ops_y hH20 rfl rfl (yv_move rfl) (ops_y hH20 rfl rfl (yv_extract rfl rfl) (ops_y hH20 rfl rfl (yv_extract rfl rfl) (ops_y hH20 rfl rfl (yv_assign rfl) (ops_y hH20 rfl rfl (yv_assign rfl) (ops_nil (thn_n (seq (region (ops_y hH20 rfl rfl (yv_move rfl) ?_)))))))))
        refine op_fn rfl rfl rfl hH20 (c43 (h0.now hH20 (n := 1) rfl) (by omega) hc0) (fun u24 w22 lo25 hi26 hH23 hv27 => ?_)
        obtain ⟨p30, hu, -⟩ := hv27
        subst hu
        obtain ⟨TT28, hH29⟩ := Heap.tupRows hH23 (n := 0) rfl
        have hTl31 := (show RowsAt p30 TT28 (Q.tab l) _ from hH29.get (n := 0) rfl).2.1
        refine ops_y hH29 rfl rfl (yv_move rfl) (ops_y hH29 rfl rfl (yv_extract rfl rfl) (ops_y hH29 rfl rfl (yv_extract rfl rfl) (ops_y hH29 rfl rfl (yv_assign rfl) (ops_y hH29 rfl rfl (yv_assign rfl) (ops_nil (thn_n (seq (seq (region ?_)))))))))
        refine ops_y hH29 rfl rfl (yv_move rfl) ?_
        refine ops_y hH29 rfl rfl (yv_castB rfl (yv_neq rfl rfl)) ?_
        refine ops_y hH29 rfl rfl (yv_move rfl) (guard_yes rfl rfl rfl (ops_y hH29 rfl rfl (yv_move rfl) (guard_yes rfl rfl rfl ?_)))
        refine ops_y hH29 rfl rfl (yv_castB rfl (yv_neq rfl rfl)) ?_
        refine ops_y hH29 rfl rfl (yv_pick_f rfl rfl rfl) ?_
        refine ops_y hH29 rfl rfl (yv_move rfl) (guard_yes rfl rfl rfl (ops_y hH29 rfl rfl (yv_move rfl) (guard_yes rfl rfl rfl ?_)))
        refine ops_y hH29 rfl rfl (yv_not rfl) ?_
        refine ops_y hH29 rfl rfl (yv_pick_f rfl rfl rfl) ?_
        refine ops_y hH29 rfl rfl (yv_move rfl) (guard_yes rfl rfl rfl (ops_y hH29 rfl rfl (yv_move rfl) (guard_yes rfl rfl rfl ?_)))
        refine op_fnV rfl rfl rfl hH29 ((by have h := c20 (Heap.rdw T.el22_encI hH29 (n := 1) rfl) (by omega) hFu; simp only [hF1] at h; exact h)) (fun w32 hH33 => ?_)
        refine guard_yes rfl rfl rfl ?_
        refine ops_y hH33 rfl rfl (yv_castB rfl (yv_neq rfl rfl)) ?_
        refine ops_y hH33 rfl rfl (yv_pick_f rfl rfl rfl) ?_
        refine ops_y hH33 rfl rfl (yv_move rfl) (guard_yes rfl rfl rfl (ops_y hH33 rfl rfl (yv_move rfl) (guard_yes rfl rfl rfl ?_)))
        refine ops_y hH33 rfl rfl (yv_len T.sl22 rfl (Heap.rdw T.el22_encI hH33 (n := 1) rfl).is) ?_
        refine guard_yes rfl rfl rfl (ops_y hH33 rfl rfl (yv_move rfl) (guard_yes rfl rfl rfl ?_))
        refine ops_y hH33 rfl rfl (yv_len T.sl30 rfl (h0.now hH33 (n := 2) rfl).is) ?_
        refine guard_yes rfl rfl rfl ?_
        refine ops_y hH33 rfl rfl (yv_neq rfl rfl) ?_
        refine ops_y hH33 rfl rfl (yv_pick_f rfl rfl rfl) ?_
        refine ops_nil (thn_n ?_)
        by_cases hc34 : ((Q.F l 0 l.length).length : Int) = (l.length : Int)
        · skip
          refine cond_f rfl (not_decide_n hc34) ?_
          refine skip (thn_n (seq (region (ops_y hH33 rfl rfl (yv_move rfl) (ops_y hH33 rfl rfl (yv_move rfl) ?_)))))
          refine op_fnV rfl rfl rfl hH33 ((by have h := c23 (h0.now hH33 (n := 2) rfl) (Heap.rdw T.el22_encI hH33 (n := 1) rfl) (by omega) (by omega) hFu (w := w32); simp only [hF3] at h; exact h)) (fun w35 hH36 => ?_)
          refine ops_y hH36 rfl rfl (yv_move rfl) (ops_y hH36 rfl rfl (yv_extract rfl rfl) (ops_y hH36 rfl rfl (yv_extract rfl rfl) (ops_y hH36 rfl rfl (yv_assign rfl) (ops_y hH36 rfl rfl (yv_assign rfl) (ops_nil (thn_n (seq (region (ops_y hH36 rfl rfl (yv_move rfl) ?_)))))))))
          refine ops_y hH36 rfl rfl (yv_move rfl) ?_
          refine op_fnV rfl rfl rfl hH36 ((by have h := c44u (h0.now hH36 (n := 2) rfl) (((show RowsAt p30 TT28 (Q.tab l) _ from hH36.get (n := 0) rfl)).u) (by omega) (by omega) hrowB; simp only [hT] at h; exact h)) (fun w37 hH38 => ?_)
          refine ops_y hH38 rfl rfl (yv_move rfl) (ops_y hH38 rfl rfl (yv_extract rfl rfl) (ops_y hH38 rfl rfl (yv_extract rfl rfl) (ops_y hH38 rfl rfl (yv_assign rfl) (ops_y hH38 rfl rfl (yv_assign rfl) (ops_nil (thn_n (seq (region (ops_y hH38 rfl rfl (yv_move rfl) ?_)))))))))
          refine ops_y hH38 rfl rfl (yv_move rfl) ?_
          refine op_fnV rfl rfl rfl hH38 ((by have h := c45u (h0.now hH38 (n := 2) rfl) (((show RowsAt p30 TT28 (Q.tab l) _ from hH38.get (n := 0) rfl)).u) (by omega) (by omega) hrowB; simp only [hT] at h; exact h)) (fun w39 hH40 => ?_)
          refine ops_y hH40 rfl rfl (yv_move rfl) (ops_y hH40 rfl rfl (yv_extract rfl rfl) (ops_y hH40 rfl rfl (yv_extract rfl rfl) (ops_y hH40 rfl rfl (yv_assign rfl) (ops_y hH40 rfl rfl (yv_assign rfl) (ops_nil (thn_n (seq (region (ops_y hH40 rfl rfl (yv_move rfl) ?_)))))))))
          refine ops_y hH40 rfl rfl (yv_move rfl) ?_
          refine ops_y hH40 rfl rfl (yv_len T.sl30 rfl (h0.now hH40 (n := 2) rfl).is) ?_
          refine ops_y hH40 rfl rfl (yv_move rfl) ?_
          refine op_fn rfl rfl rfl hH40 (c46 (n := l.length) ((hby.now hH40 (n := 2) rfl)) hb5 (by omega) (by omega)) (fun u43 w41 lo44 hi45 hH42 hv46 => ?_)
          have hH47 := Heap.toOw hH42 (n := 0) rfl
          refine op_fnV rfl rfl rfl hH47 ((by have h := c23 (h0.now hH47 (n := 3) rfl) (Heap.rdw T.el22_encI hH47 (n := 0) rfl) (by omega) (by omega) hgu (w := w41); simp only [hk3] at h; exact h)) (fun w48 hH49 => ?_)
          refine ops_y hH49 rfl rfl (yv_move rfl) (ops_y hH49 rfl rfl (yv_extract rfl rfl) (ops_y hH49 rfl rfl (yv_extract rfl rfl) (ops_y hH49 rfl rfl (yv_assign rfl) (ops_y hH49 rfl rfl (yv_assign rfl) (ops_nil (thn_n (seq (seq (region ?_)))))))))
          refine ops_y hH49 rfl rfl (yv_move rfl) ?_
          refine ops_y hH49 rfl rfl (yv_castB rfl (yv_neq rfl rfl)) ?_
          refine ops_y hH49 rfl rfl (yv_move rfl) (guard_yes rfl rfl rfl (ops_y hH49 rfl rfl (yv_move rfl) (guard_yes rfl rfl rfl ?_)))
          refine ops_y hH49 rfl rfl (yv_castB rfl (yv_neq rfl rfl)) ?_
          refine ops_y hH49 rfl rfl (yv_pick_f rfl rfl rfl) ?_
          refine ops_y hH49 rfl rfl (yv_move rfl) (guard_yes rfl rfl rfl (ops_y hH49 rfl rfl (yv_move rfl) (guard_yes rfl rfl rfl ?_)))
          refine ops_y hH49 rfl rfl (yv_castB rfl (yv_neq rfl rfl)) ?_
          refine ops_y hH49 rfl rfl (yv_pick_f rfl rfl rfl) ?_
          refine ops_y hH49 rfl rfl (yv_move rfl) (guard_yes rfl rfl rfl (ops_y hH49 rfl rfl (yv_move rfl) (guard_yes rfl rfl rfl ?_)))
          refine ops_y hH49 rfl rfl (yv_castB rfl (yv_neq rfl rfl)) ?_
          refine ops_y hH49 rfl rfl (yv_pick_f rfl rfl rfl) ?_
          refine ops_y hH49 rfl rfl (yv_move rfl) (guard_yes rfl rfl rfl (ops_y hH49 rfl rfl (yv_move rfl) (guard_yes rfl rfl rfl (ops_y hH49 rfl rfl (yv_move rfl) (guard_yes rfl rfl rfl ?_)))))
          refine ops_y hH49 rfl rfl (yv_castB (not_decide_n rfl) (yv_neq rfl rfl)) ?_
          refine ops_y hH49 rfl rfl (yv_pick_f rfl rfl rfl) ?_
          refine ops_y hH49 rfl rfl (yv_move rfl) (guard_yes rfl rfl rfl (ops_y hH49 rfl rfl (yv_move rfl) (guard_yes rfl rfl rfl (ops_y hH49 rfl rfl (yv_move rfl) (guard_yes rfl rfl rfl ?_)))))
          refine ops_y hH49 rfl rfl (yv_castB (not_decide_n rfl) (yv_neq rfl rfl)) ?_
          refine ops_y hH49 rfl rfl (yv_pick_f rfl rfl rfl) ?_
          refine ops_y hH49 rfl rfl (yv_move rfl) (guard_yes rfl rfl rfl (ops_y hH49 rfl rfl (yv_move rfl) (guard_yes rfl rfl rfl (ops_y hH49 rfl rfl (yv_move rfl) (guard_yes rfl rfl rfl ?_)))))
          refine ops_y hH49 rfl rfl (yv_castB (not_decide_n rfl) (yv_neq rfl rfl)) ?_
          refine ops_y hH49 rfl rfl (yv_pick_f rfl rfl rfl) ?_
          refine ops_y hH49 rfl rfl (yv_move rfl) (guard_yes rfl rfl rfl (ops_y hH49 rfl rfl (yv_move rfl) (guard_yes rfl rfl rfl (ops_y hH49 rfl rfl (yv_move rfl) (guard_yes rfl rfl rfl ?_)))))
          refine ops_y hH49 rfl rfl (yv_lss rfl rfl) ?_
          refine ops_y hH49 rfl rfl (yv_pick_f rfl rfl rfl) ?_
          refine ops_nil (thn_n ?_)
          by_cases hc50 : (Q.cst l 0 (Q.gr l.length by_)) < (Q.C l 0 l.length)
          · skip
            refine cond_t rfl (decide_eq_true hc50) ?_
            refine seq (region (ops_y hH49 rfl rfl (yv_assign rfl) (ops_nil (thn_n (ret (thn_r ?_))))))
            have hH51 := (hH49.sub (List.Sublist.cons _ (List.Sublist.cons _ (List.Sublist.cons _ (List.Sublist.refl _)))))
            refine fin hH51 (fun w' hf => (res1 rfl (show RV _ _ _ (.tmp 6) _ from rfl))) (fun w' hf => ?_)
            first | rfl | (exfalso; omega)
          · skip
            refine cond_f rfl (decide_eq_false hc50) ?_
            refine skip (thn_n (seq (region (ops_y hH49 rfl rfl (yv_move rfl) (ops_y hH49 rfl rfl (yv_move rfl) ?_)))))
            refine op_fnV rfl rfl rfl hH49 (c44u (h0.now hH49 (n := 3) rfl) (ha.now hH49 (n := 3) rfl) (by omega) (by omega) (fun i hi => Nat.le_trans (hwd.2 i hi) (by decide))) (fun w52 hH53 => ?_)
            refine ops_y hH53 rfl rfl (yv_move rfl) (ops_y hH53 rfl rfl (yv_extract rfl rfl) (ops_y hH53 rfl rfl (yv_extract rfl rfl) (ops_y hH53 rfl rfl (yv_assign rfl) (ops_y hH53 rfl rfl (yv_assign rfl) (ops_nil (thn_n (seq (region (ops_y hH53 rfl rfl (yv_move rfl) ?_)))))))))
            refine ops_y hH53 rfl rfl (yv_neq rfl rfl) ?_
            refine ops_y hH53 rfl rfl (yv_move rfl) ?_
            by_cases hc54 : ((Q.ckB l RR).2) = 0
            · skip
              refine guard_yes rfl rfl (not_decide_n hc54) ?_
              refine ops_y hH53 rfl rfl (yv_move rfl) ?_
              refine guard_yes rfl rfl (not_decide_n hc54) ?_
              refine ops_y hH53 rfl rfl (yv_move rfl) ?_
              refine guard_yes rfl rfl (not_decide_n hc54) ?_
              refine ops_y hH53 rfl rfl (yv_leq rfl rfl) ?_
              refine guard_yes rfl rfl (not_decide_n hc54) ?_
              refine ops_y hH53 rfl rfl (yv_move rfl) ?_
              by_cases hc55 : ((Q.ckB l RR).1) ≤ (Q.cst l 0 (Q.gr l.length by_))
              · skip
                refine guard_yes rfl rfl (decide_eq_true hc55) ?_
                refine ops_y hH53 rfl rfl (yv_move rfl) ?_
                refine guard_yes rfl rfl (decide_eq_true hc55) ?_
                refine ops_y hH53 rfl rfl (yv_move rfl) ?_
                refine guard_yes rfl rfl (decide_eq_true hc55) ?_
                refine ops_y hH53 rfl rfl (yv_leq rfl rfl) ?_
                refine guard_yes rfl rfl (not_decide_n hc54) ?_
                refine ops_y hH53 rfl rfl (yv_pick_t rfl (decide_eq_true hc55) rfl) ?_
                refine ops_y hH53 rfl rfl (yv_pick_f rfl (not_decide_n hc54) rfl) ?_
                refine ops_y hH53 rfl rfl (yv_move rfl) ?_
                by_cases hc56 : ((Q.ckB l RR).1) ≤ (Q.C l 0 l.length)
                · skip
                  refine guard_yes rfl rfl (decide_eq_true hc56) ?_
                  refine op_fnV rfl rfl rfl hH53 (c16) (fun w57 hH58 => ?_)
                  refine ops_y hH58 rfl rfl (yv_pick_t rfl (decide_eq_true hc56) rfl) ?_
                  refine ops_y hH58 rfl rfl (yv_assign rfl) (ops_nil (thn_n (ret ?_)))
                  have hH59 := (hH58.sub (List.Sublist.cons _ (List.Sublist.cons _ (List.Sublist.cons _ (List.Sublist.refl _)))))
                  refine fin hH59 (fun w' hf => (res1 rfl (show RV _ _ _ (.tmp 6) _ from rfl))) (fun w' hf => ?_)
                  first | rfl | (exfalso; omega)
                · skip
                  refine guard_no rfl rfl (decide_eq_false hc56) rfl ?_
                  refine ops_y hH53 rfl rfl (yv_pick_f rfl (decide_eq_false hc56) rfl) ?_
                  refine ops_y hH53 rfl rfl (yv_assign rfl) (ops_nil (thn_n (ret ?_)))
                  have hH60 := (hH53.sub (List.Sublist.cons _ (List.Sublist.cons _ (List.Sublist.cons _ (List.Sublist.refl _)))))
                  refine fin hH60 (fun w' hf => (res1 rfl (show RV _ _ _ (.tmp 6) _ from rfl))) (fun w' hf => ?_)
                  first | rfl | (exfalso; omega)
              · skip
                refine guard_no rfl rfl (decide_eq_false hc55) rfl ?_
                refine guard_no rfl rfl (decide_eq_false hc55) rfl ?_
                refine guard_no rfl rfl (decide_eq_false hc55) rfl ?_
                refine guard_yes rfl rfl (not_decide_n hc54) ?_
                refine ops_y hH53 rfl rfl (yv_pick_f rfl (decide_eq_false hc55) rfl) ?_
                refine ops_y hH53 rfl rfl (yv_pick_f rfl (not_decide_n hc54) rfl) ?_
                refine ops_y hH53 rfl rfl (yv_move rfl) (guard_no rfl rfl rfl rfl ?_)
                refine ops_y hH53 rfl rfl (yv_pick_f rfl rfl rfl) ?_
                refine ops_y hH53 rfl rfl (yv_assign rfl) (ops_nil (thn_n (ret ?_)))
                have hH61 := (hH53.sub (List.Sublist.cons _ (List.Sublist.cons _ (List.Sublist.cons _ (List.Sublist.refl _)))))
                refine fin hH61 (fun w' hf => (res1 rfl (show RV _ _ _ (.tmp 6) _ from rfl))) (fun w' hf => ?_)
                first | rfl | (exfalso; omega)
            · skip
              refine guard_no rfl rfl (not_decide_t hc54) rfl ?_
              refine guard_no rfl rfl (not_decide_t hc54) rfl ?_
              refine guard_no rfl rfl (not_decide_t hc54) rfl ?_
              refine guard_no rfl rfl (not_decide_t hc54) rfl ?_
              refine guard_none rfl rfl rfl ?_
              refine guard_none rfl rfl rfl ?_
              refine guard_none rfl rfl rfl ?_
              refine guard_no rfl rfl (not_decide_t hc54) rfl ?_
              refine ops_y hH53 rfl rfl (yv_pick_t rfl (not_decide_t hc54) rfl) ?_
              refine ops_y hH53 rfl rfl (yv_move rfl) (guard_yes rfl rfl rfl ?_)
              refine op_fnV rfl rfl rfl hH53 (c16) (fun w62 hH63 => ?_)
              refine ops_y hH63 rfl rfl (yv_pick_t rfl rfl rfl) ?_
              refine ops_y hH63 rfl rfl (yv_assign rfl) (ops_nil (thn_n (ret ?_)))
              have hH64 := (hH63.sub (List.Sublist.cons _ (List.Sublist.cons _ (List.Sublist.cons _ (List.Sublist.refl _)))))
              refine fin hH64 (fun w' hf => (res1 rfl (show RV _ _ _ (.tmp 6) _ from rfl))) (fun w' hf => ?_)
              first | rfl | (exfalso; omega)
        · skip
          refine cond_t rfl (not_decide_t hc34) ?_
          refine seq (region (ops_y hH33 rfl rfl (yv_assign rfl) (ops_nil (thn_n (ret (thn_r ?_))))))
          have hH65 := (hH33.sub (List.Sublist.cons _ (List.Sublist.cons _ (List.Sublist.refl _))))
          refine fin hH65 (fun w' hf => (res1 rfl (show RV _ _ _ (.tmp 6) _ from rfl))) (fun w' hf => ?_)
          first | rfl | (exfalso; omega)
  · skip
    have hcn : ¬ Q.ckW l = 0 := ‹_›
    refine region (ops_y hH rfl rfl (yv_move rfl) ?_)
    refine op_fnV rfl rfl rfl hH (c41 (h0.now hH (n := 0) rfl)) (fun w66 hH67 => ?_)
    refine ops_y hH67 rfl rfl (yv_castB (bnot_t (decide_eq_false hc1)) (yv_not rfl)) ?_
    refine ops_y hH67 rfl rfl (yv_move rfl) (guard_no rfl rfl rfl rfl (guard_no rfl rfl rfl rfl (guard_no rfl rfl rfl rfl ?_)))
    refine ops_y hH67 rfl rfl (yv_pick_t rfl rfl rfl) ?_
    refine ops_y hH67 rfl rfl (yv_move rfl) (guard_no rfl rfl rfl rfl (guard_no rfl rfl rfl rfl ?_))
    refine ops_y hH67 rfl rfl (yv_pick_t rfl rfl rfl) ?_
    refine ops_nil (thn_n ?_)
    refine cond_t rfl rfl ?_
    refine seq (region ?_)
    refine op_fnV rfl rfl rfl hH67 (c16) (fun w68 hH69 => ?_)
    refine ops_y hH69 rfl rfl (yv_assign rfl) (ops_nil (thn_n (ret (thn_r ?_))))
    refine fin hH69 (fun w' hf => (res1 rfl (show RV _ _ _ (.tmp 6) _ from rfl))) (fun w' hf => ?_)
    first | rfl | (exfalso; omega)

end Go.Fip
