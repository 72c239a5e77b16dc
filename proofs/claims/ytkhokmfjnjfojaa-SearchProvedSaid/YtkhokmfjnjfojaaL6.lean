/- Walks, by program (wip/tools). -/
import Derived.Test.YtkhokmfjnjfojaaL5
set_option linter.unusedVariables false
set_option linter.unusedSimpArgs false
set_option linter.unusedSectionVars false
set_option linter.unnecessarySimpa false
namespace Go.Fip
open Go.Proofs Go.RowKit

theorem rev_take {L : List Int} {m : Int} {q : Nat} (hm : m = (L.length : Int)) (h : q < L.length) : L.reverse.take q ++ [nth L (m - 1 - (q : Int))] = L.reverse.take (q + 1) := by
  rw [List.take_succ_eq_append_getElem (by rw [List.length_reverse]; exact h), List.getElem_reverse, hm, show (L.length : Int) - 1 - (q : Int) = ((L.length - 1 - q : Nat) : Int) by omega, nth_nat (by omega)]

set_option maxHeartbeats 1000000 in
theorem c7 {vb : Value} {by_ : List Int} {w : World} (hby : Rd encB 1 vb by_ w) (hb5 : ∀ n ∈ by_, 0 ≤ n ∧ n ≤ 255) {a c : Int} (ha : 0 ≤ a ∧ a ≤ 255) (hc : 0 ≤ c ∧ c ≤ 255)  :
    Fn Try.prog 7 [(.int .u8 a), vb, (.int .u8 c)].toArray w (fun u _ => u = .bool true) := by
  refine fn_of' (args := [(.int .u8 a), vb, (.int .u8 c)]) Try.func7 rfl (ent Try.func7 (by kernel_rfl) rfl) rfl rfl (fun hH => ?_)
  refine seq (region (ops_y hH rfl rfl (yv_assign rfl) (ops_nil (thn_n (seq (seq (region (ops_y hH rfl rfl (yv_move rfl) ?_))))))))
  refine ops_y hH rfl rfl (yv_len T.sl44 rfl ((hby.now hH (n := 0) rfl)).is) ?_
  refine ops_y hH rfl rfl (yv_gtr rfl rfl) ?_
  refine ops_nil (thn_n ?_)
  by_cases hc1 : 60 < (by_.length : Int)
  · skip
    refine cond_t rfl (decide_eq_true hc1) ?_
    refine seq (region ?_)
    refine op_fnV rfl rfl rfl hH (c16) (fun w2 hH3 => ?_)
    refine ops_y hH3 rfl rfl (yv_assign rfl) (ops_nil (thn_n (ret (thn_r ?_))))
    refine fin hH3 (fun w' hf => (res1 rfl (show RV _ _ _ (.tmp 6) _ from rfl))) (fun w' hf => ?_)
    first | rfl | (exfalso; omega)
  · skip
    refine cond_f rfl (decide_eq_false hc1) ?_
    refine skip (thn_n (seq ?_))
    obtain ⟨n, hn⟩ : ∃ n : Nat, (n : Int) = 1 + a % 12 := ⟨(1 + a % 12).toNat, by omega⟩
    have hn1 : 1 ≤ n ∧ n ≤ 12 := by omega
    obtain ⟨x, hx⟩ : ∃ x : Nat, (x : Int) = c % (n : Int) := ⟨(c % (n : Int)).toNat, Int.toNat_of_nonneg (Int.emod_nonneg c (by omega))⟩
    have hx9 := Int.emod_lt_of_pos c (b := (n : Int)) (by omega)
    have hgs := Q.gr_size n n by_ (Nat.le_refl _)
    have hgl : (Q.T.dep 0 (Q.gr n by_)).length = n := by rw [Q.T.dep_length, hgs]
    have hgc := Q.ck_of_tree (t := Q.gr n by_) (by omega) (by omega)
    have hgu : Q.Up (Q.T.dep 0 (Q.gr n by_)) := fun x hx => by have := Q.T.dep_lt (Q.gr n by_) 0 x hx; omega
    have hgt := Q.tr_of_dep (t := Q.gr n by_)
    have hTr : Q.trialsR (Q.T.dep 0 (Q.gr n by_)) (x : Int) = ((Q.tri (Q.gr n by_) 0 x), 0) := by rw [Q.rr3 hgc (by omega), hgt, Int.toNat_natCast]
    have hS0 : Q.Trd (Q.gr n by_) (Q.T.dep 0 (Q.gr n by_)) x (Q.gr n by_) 0 n 0 [] := by have h := Q.Trd.start (t := Q.gr n by_) rfl (x := x) (by omega); rw [hgl] at h; exact h
    obtain ⟨htl, htl2⟩ := Q.Trd.last _ (Nat.le_refl _) hS0
    have hnx : 0 ≤ nth (Q.T.dep 0 (Q.gr n by_)) (x : Int) := by rw [nth_nat (by omega)]; exact Q.T.dep_ge _ 0 _ (List.getElem_mem (by omega))
    have hll := Q.tri_len (Q.gr n by_) 0 x
    refine region (ops_y hH rfl rfl (yv_move rfl) ?_)
    refine ops_y hH rfl rfl (yv_conv Try.underlying5 Try.underlying3 rfl (wrap_i64 (by omega))) ?_
    refine ops_y hH rfl rfl (yv_rem rfl rfl (by omega) (by omega)) ?_
    refine ops_y hH rfl rfl (yv_cast (show _ = (n : Int) by omega) (yv_add rfl rfl (by omega))) ?_
    refine ops_y hH rfl rfl (yv_assign rfl) (ops_nil (thn_n (seq ?_)))
    refine region_draw (fun w' => Heap [base w] w') T.mixed (fun w4 hr5 => ?_)
    have hH6 := hH.redrawn hr5
    refine any_takes [0, 1, 3, 4, 5, 6] (by kernel_rfl) hH6 _ _ _ (by kernel_rfl) ?_
    refine qs_y rfl rfl (yv_move rfl) (qs_y rfl rfl (yv_move rfl) (qs_y rfl rfl (yv_move rfl) ?_))
    refine qs_y rfl rfl (yv_conv Try.underlying5 Try.underlying3 rfl (wrap_i64 (by omega))) ?_
    refine qs_y rfl rfl (yv_move rfl) ?_
    refine qs_y rfl rfl (yv_cast hx.symm (yv_rem rfl rfl (by omega) (by omega))) ?_
    refine qs_nil ?_
    refine any_all [2] (by kernel_rfl) rfl ?_
    refine ⟨⟨_, rfl, ?_⟩, trivial⟩
    · skip
      refine op_fn rfl rfl rfl hH6 (c46 (n := n) ((hby.now hH6 (n := 0) rfl)) hb5 (by omega) (by omega)) (fun u9 w7 lo10 hi11 hH8 hv12 => ?_)
      have hH13 := Heap.toOw hH8 (n := 0) rfl
      refine ops_nil ?_
      refine ⟨(hH13.sub (List.Sublist.cons _ (List.Sublist.refl _))), ?_⟩
      refine any_takes [7, 8] (by kernel_rfl) (hH13.sub (List.Sublist.cons _ (List.Sublist.refl _))) _ _ _ (by kernel_rfl) ?_
      refine qs_y rfl rfl (yv_assign rfl) (qs_y rfl rfl (yv_assign rfl) (qs_nil ?_))
      refine any_done (by kernel_rfl) ?_
      refine thn_n (seq (region (ops_y hH13 rfl rfl (yv_move rfl) (ops_y hH13 rfl rfl (yv_move rfl) ?_))))
      refine op_fn rfl rfl rfl hH13 ((by have h := c17 (Heap.rdw T.el22_encI hH13 (n := 0) rfl) (by omega) hgu (a := (x : Int)); simp only [hTr] at h; exact h)) (fun u16 w14 lo17 hi18 hH15 hv19 => ?_)
      obtain ⟨p21, hu, -⟩ := hv19
      subst hu
      have hH20 := Heap.tup2 hH15 (n := 0) rfl
      refine ops_y hH20 rfl rfl (yv_move rfl) (ops_y hH20 rfl rfl (yv_extract rfl rfl) (ops_y hH20 rfl rfl (yv_extract rfl rfl) (ops_y hH20 rfl rfl (yv_assign rfl) (ops_y hH20 rfl rfl (yv_assign rfl) (ops_nil (thn_n (seq (seq (region ?_)))))))))
      refine ops_y hH20 rfl rfl (yv_move rfl) ?_
      refine op_fnV rfl rfl rfl hH20 ((by have h := c19 (Heap.rdw T.el22_encI hH20 (n := 1) rfl) (by omega) hgu; simp only [hgc] at h; exact h)) (fun w22 hH23 => ?_)
      refine ops_y hH23 rfl rfl (yv_castB rfl (yv_neq rfl rfl)) ?_
      refine ops_y hH23 rfl rfl (yv_move rfl) (guard_yes rfl rfl rfl (ops_y hH23 rfl rfl (yv_move rfl) (guard_yes rfl rfl rfl ?_)))
      refine ops_y hH23 rfl rfl (yv_castB rfl (yv_neq rfl rfl)) ?_
      refine ops_y hH23 rfl rfl (yv_pick_f rfl rfl rfl) ?_
      refine ops_y hH23 rfl rfl (yv_move rfl) (guard_yes rfl rfl rfl (ops_y hH23 rfl rfl (yv_move rfl) (guard_yes rfl rfl rfl ?_)))
      refine ops_y hH23 rfl rfl (yv_len T.sl22 rfl (Heap.rdw T.el22_encI hH23 (n := 0) rfl).is) ?_
      refine guard_yes rfl rfl rfl (ops_y hH23 rfl rfl (yv_move rfl) (guard_yes rfl rfl rfl (ops_y hH23 rfl rfl (yv_move rfl) (guard_yes rfl rfl rfl ?_))))
      refine ops_y hH23 rfl rfl (yv_index T.sl22 rfl rfl (Heap.rdw T.el22_encI hH23 (n := 1) rfl).is (by omega)) ?_
      refine guard_yes rfl rfl rfl ?_
      refine ops_y hH23 rfl rfl (yv_load T.one3 rfl (fun _ hw => Rd.at (Heap.rdw T.el22_encI hw (n := 1) rfl) (i := (x : Int)) (by omega) (j := 0) rfl)) ?_
      refine guard_yes rfl rfl rfl ?_
      refine ops_y hH23 rfl rfl (yv_add rfl rfl (by omega)) ?_
      refine guard_yes rfl rfl rfl ?_
      refine ops_y hH23 rfl rfl (yv_neq rfl rfl) ?_
      refine ops_y hH23 rfl rfl (yv_pick_f rfl rfl rfl) ?_
      refine ops_y hH23 rfl rfl (yv_move rfl) ?_
      by_cases hc24 : ((Q.tri (Q.gr n by_) 0 x).length : Int) = ((nth (Q.T.dep 0 (Q.gr n by_)) (x : Int)) + 1)
      · skip
        refine guard_yes rfl rfl (not_decide_n hc24) ?_
        refine ops_y hH23 rfl rfl (yv_move rfl) ?_
        refine guard_yes rfl rfl (not_decide_n hc24) ?_
        refine ops_y hH23 rfl rfl (yv_move rfl) ?_
        refine guard_yes rfl rfl (not_decide_n hc24) ?_
        refine ops_y hH23 rfl rfl (yv_len T.sl22 rfl (Heap.rdw T.el22_encI hH23 (n := 0) rfl).is) ?_
        refine guard_yes rfl rfl (not_decide_n hc24) ?_
        refine ops_y hH23 rfl rfl (yv_sub rfl rfl (by omega)) ?_
        refine guard_yes rfl rfl (not_decide_n hc24) ?_
        refine ops_y hH23 rfl rfl (yv_index T.sl22 rfl rfl (Heap.rdw T.el22_encI hH23 (n := 0) rfl).is (by omega)) ?_
        refine guard_yes rfl rfl (not_decide_n hc24) ?_
        refine ops_y hH23 rfl rfl (yv_load T.one3 rfl (fun _ hw => Rd.at (Heap.rdw T.el22_encI hw (n := 0) rfl) (i := ((Q.tri (Q.gr n by_) 0 x).length : Int) - 1) (by omega) (j := 0) rfl)) ?_
        refine guard_yes rfl rfl (not_decide_n hc24) ?_
        refine ops_y hH23 rfl rfl (yv_move rfl) ?_
        refine guard_yes rfl rfl (not_decide_n hc24) ?_
        refine ops_y hH23 rfl rfl (yv_neq rfl rfl) ?_
        refine ops_y hH23 rfl rfl (yv_pick_f rfl (not_decide_n hc24) rfl) ?_
        refine ops_nil (thn_n ?_)
        by_cases hc25 : (nth (Q.tri (Q.gr n by_) 0 x) (((Q.tri (Q.gr n by_) 0 x).length : Int) - 1)) = (x : Int)
        · skip
          refine cond_f rfl (not_decide_n hc25) ?_
          refine skip (thn_n (seq (region (ops_y hH23 rfl rfl (yv_move rfl) (ops_y hH23 rfl rfl (yv_assign rfl) (ops_y hH23 rfl rfl (yv_assign rfl) (ops_nil (thn_n (seq ?_)))))))))
          refine seq (region (ops_y hH23 rfl rfl (yv_assign rfl) (ops_nil (thn_n (block ?_)))))
          refine loop (S := Nat × Nat × Nat) (fun (D, i, k) => [(14, (.int .i64 (D : Int))), (12, (.int .i64 (i : Int))), (13, (.int .i64 (k : Int))), (8, u9), (9, (.int .i64 (x : Int))), (10, p21)]) (fun (D, i, k) w1 => Heap [ow lo17 hi18 3 1 encI p21 (Q.tri (Q.gr n by_) 0 x), ow lo10 hi11 3 1 encI u9 (Q.T.dep 0 (Q.gr n by_)), base w] w1 ∧ D ≤ (Q.tri (Q.gr n by_) 0 x).length ∧ (D < (Q.tri (Q.gr n by_) 0 x).length → ∃ s o, Q.Trd (Q.gr n by_) (Q.T.dep 0 (Q.gr n by_)) x s i k D o)) (fun (D, i, k) => (Q.tri (Q.gr n by_) 0 x).length - D) (0, 0, n) (Sub.cons rfl (Sub.cons rfl (Sub.cons rfl (Sub.cons rfl (Sub.cons rfl (Sub.cons rfl (Sub.nil _))))))) ?_ ?_
          · exact ⟨hH23, by omega, (fun _ => ⟨_, _, hS0⟩)⟩
          · rintro ⟨D, i, k⟩ w26 ⟨hH27, hD, hI⟩
            show Holds _ _ _ _ _ [(14, (.int .i64 (D : Int))), (12, (.int .i64 (i : Int))), (13, (.int .i64 (k : Int))), (8, u9), (9, (.int .i64 (x : Int))), (10, p21)] _ _
            refine seq (seq (region (ops_y hH27 rfl rfl (yv_move rfl) (ops_y hH27 rfl rfl (yv_move rfl) ?_))))
            refine ops_y hH27 rfl rfl (yv_len T.sl22 rfl (Heap.rdw T.el22_encI hH27 (n := 0) rfl).is) ?_
            refine ops_y hH27 rfl rfl (yv_lss rfl rfl) ?_
            refine ops_nil (thn_n ?_)
            by_cases hc28 : (D : Int) < ((Q.tri (Q.gr n by_) 0 x).length : Int)
            · skip
              obtain ⟨s, o, hT⟩ := hI (by omega)
              have hkn := (hT.all x hT.lo hT.hi).1.2.2
              obtain ⟨y, hy, e1, e2, e3, hl, k1, k2, k3⟩ := hT.look
              have e2b : nth (Q.T.dep 0 (Q.gr n by_)) (nth (Q.tri (Q.gr n by_) 0 x) (D : Int)) = (D : Int) := by rw [e1]; exact e2
              have hTr2 : Q.trialsR (Q.T.dep 0 (Q.gr n by_)) (nth (Q.tri (Q.gr n by_) 0 x) (D : Int)) = ((Q.tri (Q.gr n by_) 0 x).take (D + 1), 0) := by rw [e1, Q.rr3 hgc (by omega), hgt, Int.toNat_natCast, e3]
              have htk : ((Q.tri (Q.gr n by_) 0 x).take (D + 1)) = ((Q.tri (Q.gr n by_) 0 x).take ((D : Int) + 1).toNat) := by rw [show ((D : Int) + 1).toNat = D + 1 by omega]
              have htkl : ((Q.tri (Q.gr n by_) 0 x).take (D + 1)).length ≤ 1000000 := by rw [List.length_take]; omega
              have hhn := hT.lo
              refine cond_t rfl (decide_eq_true hc28) ?_
              refine skip (thn_n (seq (block (seq (seq (region (ops_y hH27 rfl rfl (yv_move rfl) (ops_y hH27 rfl rfl (yv_move rfl) ?_))))))))
              refine ops_y hH27 rfl rfl (yv_index T.sl22 rfl rfl (Heap.rdw T.el22_encI hH27 (n := 0) rfl).is (by omega)) ?_
              refine ops_y hH27 rfl rfl (yv_load T.one3 rfl (fun _ hw => Rd.at (Heap.rdw T.el22_encI hw (n := 0) rfl) (i := (D : Int)) (by omega) (j := 0) rfl)) ?_
              refine ops_y hH27 rfl rfl (yv_move rfl) ?_
              refine ops_y hH27 rfl rfl (yv_lss rfl rfl) ?_
              refine ops_y hH27 rfl rfl (yv_move rfl) ?_
              by_cases hc29 : (nth (Q.tri (Q.gr n by_) 0 x) (D : Int)) < (i : Int)
              · skip
                refine guard_no rfl rfl (decide_eq_true hc29) rfl ?_
                refine guard_no rfl rfl (decide_eq_true hc29) rfl ?_
                refine guard_no rfl rfl (decide_eq_true hc29) rfl ?_
                refine guard_no rfl rfl (decide_eq_true hc29) rfl ?_
                refine guard_no rfl rfl (decide_eq_true hc29) rfl ?_
                refine guard_no rfl rfl (decide_eq_true hc29) rfl ?_
                refine ops_y hH27 rfl rfl (yv_pick_t rfl (decide_eq_true hc29) rfl) ?_
                refine ops_y hH27 rfl rfl (yv_move rfl) (guard_no rfl rfl rfl rfl (guard_no rfl rfl rfl rfl (guard_no rfl rfl rfl rfl (guard_no rfl rfl rfl rfl (guard_no rfl rfl rfl rfl (guard_no rfl rfl rfl rfl (guard_no rfl rfl rfl rfl (guard_no rfl rfl rfl rfl (guard_no rfl rfl rfl rfl ?_)))))))))
                refine ops_y hH27 rfl rfl (yv_pick_t rfl rfl rfl) ?_
                refine ops_nil (thn_n ?_)
                refine cond_t rfl rfl ?_
                refine seq (region (ops_y hH27 rfl rfl (yv_assign rfl) (ops_nil (thn_n (ret (thn_r (blk_r (thn_r (lp_r ?_)))))))))
                refine blk_r (thn_r ?_)
                have hH30 := (hH27.sub (List.Sublist.cons _ (List.Sublist.cons _ (List.Sublist.refl _))))
                refine fin hH30 (fun w' hf => (res1 rfl (show RV _ _ _ (.tmp 6) _ from rfl))) (fun w' hf => ?_)
                first | rfl | (exfalso; omega)
              · skip
                refine guard_yes rfl rfl (decide_eq_false hc29) ?_
                refine ops_y hH27 rfl rfl (yv_move rfl) ?_
                refine guard_yes rfl rfl (decide_eq_false hc29) ?_
                refine ops_y hH27 rfl rfl (yv_move rfl) ?_
                refine guard_yes rfl rfl (decide_eq_false hc29) ?_
                refine ops_y hH27 rfl rfl (yv_index T.sl22 rfl rfl (Heap.rdw T.el22_encI hH27 (n := 0) rfl).is (by omega)) ?_
                refine guard_yes rfl rfl (decide_eq_false hc29) ?_
                refine ops_y hH27 rfl rfl (yv_load T.one3 rfl (fun _ hw => Rd.at (Heap.rdw T.el22_encI hw (n := 0) rfl) (i := (D : Int)) (by omega) (j := 0) rfl)) ?_
                refine guard_yes rfl rfl (decide_eq_false hc29) ?_
                refine ops_y hH27 rfl rfl (yv_move rfl) ?_
                refine guard_yes rfl rfl (decide_eq_false hc29) ?_
                refine ops_y hH27 rfl rfl (yv_geq rfl rfl) ?_
                refine ops_y hH27 rfl rfl (yv_pick_f rfl (decide_eq_false hc29) rfl) ?_
                refine ops_y hH27 rfl rfl (yv_move rfl) ?_
                by_cases hc31 : (k : Int) ≤ (nth (Q.tri (Q.gr n by_) 0 x) (D : Int))
                · skip
                  refine guard_no rfl rfl (decide_eq_true hc31) rfl ?_
                  refine guard_no rfl rfl (decide_eq_true hc31) rfl ?_
                  refine guard_no rfl rfl (decide_eq_true hc31) rfl ?_
                  refine guard_no rfl rfl (decide_eq_true hc31) rfl ?_
                  refine guard_no rfl rfl (decide_eq_true hc31) rfl ?_
                  refine guard_no rfl rfl (decide_eq_true hc31) rfl ?_
                  refine guard_no rfl rfl (decide_eq_true hc31) rfl ?_
                  refine guard_no rfl rfl (decide_eq_true hc31) rfl ?_
                  refine guard_no rfl rfl (decide_eq_true hc31) rfl ?_
                  refine ops_y hH27 rfl rfl (yv_pick_t rfl (decide_eq_true hc31) rfl) ?_
                  refine ops_nil (thn_n ?_)
                  refine cond_t rfl rfl ?_
                  refine seq (region (ops_y hH27 rfl rfl (yv_assign rfl) (ops_nil (thn_n (ret (thn_r (blk_r (thn_r (lp_r ?_)))))))))
                  refine blk_r (thn_r ?_)
                  have hH32 := (hH27.sub (List.Sublist.cons _ (List.Sublist.cons _ (List.Sublist.refl _))))
                  refine fin hH32 (fun w' hf => (res1 rfl (show RV _ _ _ (.tmp 6) _ from rfl))) (fun w' hf => ?_)
                  first | rfl | (exfalso; omega)
                · skip
                  refine guard_yes rfl rfl (decide_eq_false hc31) ?_
                  refine ops_y hH27 rfl rfl (yv_move rfl) ?_
                  refine guard_yes rfl rfl (decide_eq_false hc31) ?_
                  refine ops_y hH27 rfl rfl (yv_move rfl) ?_
                  refine guard_yes rfl rfl (decide_eq_false hc31) ?_
                  refine ops_y hH27 rfl rfl (yv_move rfl) ?_
                  refine guard_yes rfl rfl (decide_eq_false hc31) ?_
                  refine ops_y hH27 rfl rfl (yv_index T.sl22 rfl rfl (Heap.rdw T.el22_encI hH27 (n := 0) rfl).is (by omega)) ?_
                  refine guard_yes rfl rfl (decide_eq_false hc31) ?_
                  refine ops_y hH27 rfl rfl (yv_load T.one3 rfl (fun _ hw => Rd.at (Heap.rdw T.el22_encI hw (n := 0) rfl) (i := (D : Int)) (by omega) (j := 0) rfl)) ?_
                  refine guard_yes rfl rfl (decide_eq_false hc31) ?_
                  refine ops_y hH27 rfl rfl (yv_index T.sl22 rfl rfl (Heap.rdw T.el22_encI hH27 (n := 1) rfl).is (by omega)) ?_
                  refine guard_yes rfl rfl (decide_eq_false hc31) ?_
                  refine ops_y hH27 rfl rfl (yv_load T.one3 rfl (fun _ hw => Rd.at (Heap.rdw T.el22_encI hw (n := 1) rfl) (i := nth (Q.tri (Q.gr n by_) 0 x) (D : Int)) (by omega) (j := 0) rfl)) ?_
                  refine guard_yes rfl rfl (decide_eq_false hc31) ?_
                  refine ops_y hH27 rfl rfl (yv_move rfl) ?_
                  refine guard_yes rfl rfl (decide_eq_false hc31) ?_
                  refine ops_y hH27 rfl rfl (yv_neq rfl rfl) ?_
                  refine ops_y hH27 rfl rfl (yv_pick_f rfl (decide_eq_false hc31) rfl) ?_
                  refine ops_nil (thn_n ?_)
                  by_cases hc33 : (nth (Q.T.dep 0 (Q.gr n by_)) (nth (Q.tri (Q.gr n by_) 0 x) (D : Int))) = (D : Int)
                  · skip
                    refine cond_f rfl (not_decide_n hc33) ?_
                    refine skip (thn_n (seq (region (ops_y hH27 rfl rfl (yv_move rfl) (ops_y hH27 rfl rfl (yv_move rfl) (ops_y hH27 rfl rfl (yv_move rfl) ?_))))))
                    refine ops_y hH27 rfl rfl (yv_index T.sl22 rfl rfl (Heap.rdw T.el22_encI hH27 (n := 0) rfl).is (by omega)) ?_
                    refine ops_y hH27 rfl rfl (yv_load T.one3 rfl (fun _ hw => Rd.at (Heap.rdw T.el22_encI hw (n := 0) rfl) (i := (D : Int)) (by omega) (j := 0) rfl)) ?_
                    refine op_fn rfl rfl rfl hH27 ((by have h := c17 (Heap.rdw T.el22_encI hH27 (n := 1) rfl) (by omega) hgu (a := nth (Q.tri (Q.gr n by_) 0 x) (D : Int)); simp only [hTr2] at h; exact h)) (fun u36 w34 lo37 hi38 hH35 hv39 => ?_)
                    obtain ⟨p41, hu, -⟩ := hv39
                    subst hu
                    have hH40 := Heap.tup2 hH35 (n := 0) rfl
                    refine ops_y hH40 rfl rfl (yv_move rfl) (ops_y hH40 rfl rfl (yv_extract rfl rfl) (ops_y hH40 rfl rfl (yv_extract rfl rfl) (ops_y hH40 rfl rfl (yv_assign rfl) (ops_y hH40 rfl rfl (yv_assign rfl) (ops_nil (thn_n (seq (seq (region ?_)))))))))
                    refine ops_y hH40 rfl rfl (yv_move rfl) ?_
                    refine ops_y hH40 rfl rfl (yv_castB rfl (yv_neq rfl rfl)) ?_
                    refine ops_y hH40 rfl rfl (yv_move rfl) (guard_yes rfl rfl rfl (ops_y hH40 rfl rfl (yv_move rfl) (guard_yes rfl rfl rfl (ops_y hH40 rfl rfl (yv_move rfl) (guard_yes rfl rfl rfl (ops_y hH40 rfl rfl (yv_move rfl) (guard_yes rfl rfl rfl ?_)))))))
                    refine ops_y hH40 rfl rfl (yv_add rfl rfl (by omega)) ?_
                    refine guard_yes rfl rfl rfl ?_
                    refine ops_y hH40 rfl rfl (yv_cut_hi T.sl22 rfl rfl (Heap.rdw T.el22_encI hH40 (n := 1) rfl).is (by omega)) ?_
                    refine guard_yes rfl rfl rfl ?_
                    refine op_fnV rfl rfl rfl hH40 (c21 (Heap.rdw T.el22_encI hH40 (n := 0) rfl) (Rd.upto (Heap.rdw T.el22_encI hH40 (n := 1) rfl) (hi := ((D : Int) + 1).toNat) (by omega)) htkl (by rw [← htk]; exact htkl)) (fun w42 hH43 => ?_)
                    refine guard_yes rfl rfl rfl ?_
                    refine ops_y hH43 rfl rfl (yv_castB (bnot_f (decide_eq_true (htk))) (yv_not rfl)) ?_
                    refine ops_y hH43 rfl rfl (yv_pick_f rfl rfl rfl) ?_
                    refine ops_nil (thn_n ?_)
                    refine cond_f rfl rfl ?_
                    refine skip (thn_n (seq (region (ops_y hH43 rfl rfl (yv_move rfl) (ops_y hH43 rfl rfl (yv_move rfl) ?_)))))
                    refine ops_y hH43 rfl rfl (yv_index T.sl22 rfl rfl (Heap.rdw T.el22_encI hH43 (n := 1) rfl).is (by omega)) ?_
                    refine ops_y hH43 rfl rfl (yv_load T.one3 rfl (fun _ hw => Rd.at (Heap.rdw T.el22_encI hw (n := 1) rfl) (i := (D : Int)) (by omega) (j := 0) rfl)) ?_
                    refine ops_y hH43 rfl rfl (yv_move rfl) ?_
                    refine ops_y hH43 rfl rfl (yv_lss rfl rfl) ?_
                    refine ops_nil (thn_n ?_)
                    by_cases hc44 : (nth (Q.tri (Q.gr n by_) 0 x) (D : Int)) < (x : Int)
                    · skip
                      have hyx : y < x := by omega
                      refine cond_t rfl (decide_eq_true hc44) ?_
                      refine region (ops_y hH43 rfl rfl (yv_move rfl) (ops_y hH43 rfl rfl (yv_move rfl) ?_))
                      refine ops_y hH43 rfl rfl (yv_index T.sl22 rfl rfl (Heap.rdw T.el22_encI hH43 (n := 1) rfl).is (by omega)) ?_
                      refine ops_y hH43 rfl rfl (yv_load T.one3 rfl (fun _ hw => Rd.at (Heap.rdw T.el22_encI hw (n := 1) rfl) (i := (D : Int)) (by omega) (j := 0) rfl)) ?_
                      refine ops_y hH43 rfl rfl (yv_add rfl rfl (by omega)) ?_
                      refine ops_y hH43 rfl rfl (yv_assign rfl) (ops_nil (blk_n (thn_n (region (ops_y hH43 rfl rfl (yv_move rfl) ?_)))))
                      refine ops_y hH43 rfl rfl (yv_add rfl rfl (by omega)) ?_
                      refine ops_y hH43 rfl rfl (yv_assign rfl) (ops_nil ?_)
                      have hH45 := (hH43.sub (List.Sublist.cons _ (List.Sublist.refl _)))
                      refine lp_n (D + 1, y + 1, k) (Sub.cons rfl (Sub.cons (by first | rfl | exact congrArg (fun z : Int => some (Value.int .i64 z)) (by omega)) (Sub.cons (by first | rfl | exact congrArg (fun z : Int => some (Value.int .i64 z)) (by omega)) (Sub.cons rfl (Sub.cons rfl (Sub.cons rfl (Sub.nil _))))))) ?_ ?_
                      · exact ⟨hH45, by omega, (fun _ => k1 (by omega))⟩
                      · first | (dsimp only; omega) | (show _ < _; omega)
                    · skip
                      refine cond_f rfl (decide_eq_false hc44) ?_
                      refine region (ops_y hH43 rfl rfl (yv_move rfl) (ops_y hH43 rfl rfl (yv_move rfl) ?_))
                      refine ops_y hH43 rfl rfl (yv_index T.sl22 rfl rfl (Heap.rdw T.el22_encI hH43 (n := 1) rfl).is (by omega)) ?_
                      refine ops_y hH43 rfl rfl (yv_load T.one3 rfl (fun _ hw => Rd.at (Heap.rdw T.el22_encI hw (n := 1) rfl) (i := (D : Int)) (by omega) (j := 0) rfl)) ?_
                      refine ops_y hH43 rfl rfl (yv_assign rfl) (ops_nil (blk_n (thn_n (region (ops_y hH43 rfl rfl (yv_move rfl) ?_)))))
                      refine ops_y hH43 rfl rfl (yv_add rfl rfl (by omega)) ?_
                      refine ops_y hH43 rfl rfl (yv_assign rfl) (ops_nil ?_)
                      have hH46 := (hH43.sub (List.Sublist.cons _ (List.Sublist.refl _)))
                      refine lp_n (D + 1, i, y) (Sub.cons rfl (Sub.cons (by first | rfl | exact congrArg (fun z : Int => some (Value.int .i64 z)) (by omega)) (Sub.cons (by first | rfl | exact congrArg (fun z : Int => some (Value.int .i64 z)) (by omega)) (Sub.cons rfl (Sub.cons rfl (Sub.cons rfl (Sub.nil _))))))) ?_ ?_
                      · exact ⟨hH46, by omega, (fun hlt => by rcases Nat.lt_or_ge x y with h | h; exact k2 h; have := k3 (by omega); omega)⟩
                      · first | (dsimp only; omega) | (show _ < _; omega)
                  · skip
                    refine cond_t rfl (not_decide_t hc33) ?_
                    refine seq (region (ops_y hH27 rfl rfl (yv_assign rfl) (ops_nil (thn_n (ret (thn_r (blk_r (thn_r (lp_r ?_)))))))))
                    refine blk_r (thn_r ?_)
                    have hH47 := (hH27.sub (List.Sublist.cons _ (List.Sublist.cons _ (List.Sublist.refl _))))
                    refine fin hH47 (fun w' hf => (res1 rfl (show RV _ _ _ (.tmp 6) _ from rfl))) (fun w' hf => ?_)
                    first | rfl | (exfalso; omega)
            · skip
              refine cond_f rfl (decide_eq_false hc28) ?_
              refine exit (thn_x (lp_x (blk_here (thn_n (seq (region ?_))))))
              refine op_fnV rfl rfl rfl hH27 (c16) (fun w48 hH49 => ?_)
              refine ops_y hH49 rfl rfl (yv_assign rfl) (ops_nil (thn_n (ret ?_)))
              have hH50 := (hH49.sub (List.Sublist.cons _ (List.Sublist.cons _ (List.Sublist.refl _))))
              refine fin hH50 (fun w' hf => (res1 rfl (show RV _ _ _ (.tmp 6) _ from rfl))) (fun w' hf => ?_)
              first | rfl | (exfalso; omega)
        · skip
          refine cond_t rfl (not_decide_t hc25) ?_
          refine seq (region (ops_y hH23 rfl rfl (yv_assign rfl) (ops_nil (thn_n (ret (thn_r ?_))))))
          have hH51 := (hH23.sub (List.Sublist.cons _ (List.Sublist.cons _ (List.Sublist.refl _))))
          refine fin hH51 (fun w' hf => (res1 rfl (show RV _ _ _ (.tmp 6) _ from rfl))) (fun w' hf => ?_)
          first | rfl | (exfalso; omega)
      · skip
        refine guard_no rfl rfl (not_decide_t hc24) rfl ?_
        refine guard_no rfl rfl (not_decide_t hc24) rfl ?_
        refine guard_no rfl rfl (not_decide_t hc24) rfl ?_
        refine guard_no rfl rfl (not_decide_t hc24) rfl ?_
        refine guard_no rfl rfl (not_decide_t hc24) rfl ?_
        refine guard_no rfl rfl (not_decide_t hc24) rfl ?_
        refine guard_no rfl rfl (not_decide_t hc24) rfl ?_
        refine guard_no rfl rfl (not_decide_t hc24) rfl ?_
        refine ops_y hH23 rfl rfl (yv_pick_t rfl (not_decide_t hc24) rfl) ?_
        refine ops_nil (thn_n ?_)
        refine cond_t rfl rfl ?_
        refine seq (region (ops_y hH23 rfl rfl (yv_assign rfl) (ops_nil (thn_n (ret (thn_r ?_))))))
        have hH52 := (hH23.sub (List.Sublist.cons _ (List.Sublist.cons _ (List.Sublist.refl _))))
        refine fin hH52 (fun w' hf => (res1 rfl (show RV _ _ _ (.tmp 6) _ from rfl))) (fun w' hf => ?_)
        first | rfl | (exfalso; omega)

set_option maxHeartbeats 1000000 in
theorem c12 {v vb : Value} {l by_ : List Int} {w : World} (h0 : Rd encI 1 v l w) (hby : Rd encB 1 vb by_ w) (hb5 : ∀ n ∈ by_, 0 ≤ n ∧ n ≤ 255)  :
    Fn Try.prog 12 [v, vb].toArray w (fun u _ => u = .bool true) := by
  refine fn_of' (args := [v, vb]) Try.func12 rfl (ent Try.func12 (by kernel_rfl) rfl) rfl rfl (fun hH => ?_)
  refine seq (region (ops_y hH rfl rfl (yv_assign rfl) (ops_nil (thn_n (seq (seq ?_))))))
  by_cases hc1 : Q.ckW l = 0
  · skip
    have hc0 : Q.ckW l = 0 := ‹_›
    obtain ⟨hl12, hw⟩ := Q.ckW_w hc0
    refine region (ops_y hH rfl rfl (yv_move rfl) ?_)
    refine op_fnV rfl rfl rfl hH (c41 (h0.now hH (n := 0) rfl)) (fun w2 hH3 => ?_)
    refine ops_y hH3 rfl rfl (yv_castB (bnot_f (decide_eq_true hc1)) (yv_not rfl)) ?_
    refine ops_y hH3 rfl rfl (yv_move rfl) (guard_yes rfl rfl rfl (ops_y hH3 rfl rfl (yv_move rfl) (guard_yes rfl rfl rfl ?_)))
    refine ops_y hH3 rfl rfl (yv_len T.sl44 rfl ((hby.now hH3 (n := 0) rfl)).is) ?_
    refine guard_yes rfl rfl rfl ?_
    refine ops_y hH3 rfl rfl (yv_gtr rfl rfl) ?_
    refine ops_y hH3 rfl rfl (yv_pick_f rfl rfl rfl) ?_
    refine ops_nil (thn_n ?_)
    by_cases hc4 : 60 < (by_.length : Int)
    · skip
      refine cond_t rfl (decide_eq_true hc4) ?_
      refine seq (region ?_)
      refine op_fnV rfl rfl rfl hH3 (c16) (fun w5 hH6 => ?_)
      refine ops_y hH6 rfl rfl (yv_assign rfl) (ops_nil (thn_n (ret (thn_r ?_))))
      refine fin hH6 (fun w' hf => (res1 rfl (show RV _ _ _ (.tmp 4) _ from rfl))) (fun w' hf => ?_)
      first | rfl | (exfalso; omega)
    · skip
      refine cond_f rfl (decide_eq_false hc4) ?_
      refine skip (thn_n (seq (region (ops_y hH3 rfl rfl (yv_move rfl) ?_))))
      refine ops_y hH3 rfl rfl (yv_len T.sl30 rfl (h0.now hH3 (n := 0) rfl).is) ?_
      refine ops_y hH3 rfl rfl (yv_assign rfl) (ops_nil (thn_n (seq ?_)))
      have hgs := Q.gr_size l.length l.length by_ (Nat.le_refl _)
      have hgl : (Q.T.dep 0 (Q.gr l.length by_)).length = l.length := by rw [Q.T.dep_length, hgs]
      have hgc := Q.ck_of_tree (t := Q.gr l.length by_) (by omega) (by omega)
      have hgu : Q.Up (Q.T.dep 0 (Q.gr l.length by_)) := fun x hx => by have := Q.T.dep_lt (Q.gr l.length by_) 0 x hx; omega
      refine region (ops_y hH3 rfl rfl (yv_move rfl) (ops_y hH3 rfl rfl (yv_move rfl) ?_))
      refine op_fn rfl rfl rfl hH3 (c46 (n := l.length) ((hby.now hH3 (n := 0) rfl)) hb5 (by omega) (by omega)) (fun u9 w7 lo10 hi11 hH8 hv12 => ?_)
      have hH13 := Heap.toOw hH8 (n := 0) rfl
      refine ops_y hH13 rfl rfl (yv_assign rfl) (ops_nil (thn_n (seq (region (ops_y hH13 rfl rfl (yv_assign rfl) (ops_nil (thn_n (seq (region ?_)))))))))
      refine ops_y hH13 rfl rfl (yv_assign rfl) (ops_nil (thn_n (seq (seq (region (ops_y hH13 rfl rfl (yv_move rfl) ?_))))))
      refine ops_y hH13 rfl rfl (yv_sub rfl rfl (by omega)) ?_
      refine ops_y hH13 rfl rfl (yv_assign rfl) (ops_nil (thn_n (block ?_)))
      have hH14 := ow_nil (enc := encI) 2 1 hH13
      have hH15 := ow_nil (enc := encI) 3 1 hH14
      refine loop (S := Nat × Value × Nat × Nat × Value × Nat × Nat) (fun (q, v_7, lo_7, hi_7, v_8, lo_8, hi_8) => [(9, (.int .i64 ((l.length : Int) - 1 - (q : Int)))), (7, v_7), (8, v_8), (0, v), (4, (.bool false)), (5, (.int .i64 (l.length : Int))), (6, u9)]) (fun (q, v_7, lo_7, hi_7, v_8, lo_8, hi_8) w1 => Heap [ow lo_8 hi_8 3 1 encI v_8 ((Q.T.dep 0 (Q.gr l.length by_)).reverse.take q), ow lo_7 hi_7 2 1 encI v_7 (l.reverse.take q), ow lo10 hi11 3 1 encI u9 (Q.T.dep 0 (Q.gr l.length by_)), base w] w1 ∧ q ≤ l.length) (fun (q, v_7, lo_7, hi_7, v_8, lo_8, hi_8) => l.length - q) (0, (.slice none 0 0), w7.heap.size, w7.heap.size, (.slice none 0 0), w7.heap.size, w7.heap.size) (Sub.cons (congrArg (fun z : Int => some (Value.int .i64 z)) (by omega)) (Sub.cons rfl (Sub.cons rfl (Sub.cons rfl (Sub.cons rfl (Sub.cons rfl (Sub.cons rfl (Sub.nil _)))))))) ?_ ?_
      · exact ⟨(Heap.recast (n := 0) (Heap.recast (n := 1) hH15 rfl (rfl)) rfl (rfl)), by omega⟩
      · rintro ⟨q, v_7, lo_7, hi_7, v_8, lo_8, hi_8⟩ w16 ⟨hH17, hq⟩
        show Holds _ _ _ _ _ [(9, (.int .i64 ((l.length : Int) - 1 - (q : Int)))), (7, v_7), (8, v_8), (0, v), (4, (.bool false)), (5, (.int .i64 (l.length : Int))), (6, u9)] _ _
        have hl7 : (l.reverse.take q).length = q := by rw [List.length_take, List.length_reverse]; omega
        have hl8 : ((Q.T.dep 0 (Q.gr l.length by_)).reverse.take q).length = q := by rw [List.length_take, List.length_reverse]; omega
        refine seq (seq (region (ops_y hH17 rfl rfl (yv_move rfl) ?_)))
        refine ops_y hH17 rfl rfl (yv_geq rfl rfl) ?_
        refine ops_nil (thn_n ?_)
        by_cases hc18 : 0 ≤ ((l.length : Int) - 1 - (q : Int))
        · skip
          refine cond_t rfl (decide_eq_true hc18) ?_
          refine skip (thn_n (seq (block ?_)))
          refine region_draw (fun w' => Heap [ow lo10 hi11 3 1 encI u9 (Q.T.dep 0 (Q.gr l.length by_)), base w] w') T.mixed (fun w19 hr20 => ?_)
          have hH21 := hH17.redrawn hr20
          refine any_takes [0, 1, 2, 3, 4, 7, 8, 9, 10, 11] (by kernel_rfl) (hH21.sub (List.Sublist.cons _ (List.Sublist.cons _ (List.Sublist.refl _)))) _ _ _ (by kernel_rfl) ?_
          refine qs_y rfl rfl (yv_move rfl) (qs_y rfl rfl (yv_move rfl) (qs_y rfl rfl (yv_move rfl) ?_))
          refine qs_y rfl rfl (yv_index T.sl30 rfl rfl (h0.now hH21 (n := 3) rfl).is (by omega)) ?_
          refine qs_y rfl rfl (yv_load T.one2 rfl (fun _ hw => Rd.at (h0.now hw (n := 1) rfl) (i := (l.length : Int) - 1 - (q : Int)) (by omega) (j := 0) rfl)) ?_
          refine qs_y rfl rfl (yv_move rfl) (qs_y rfl rfl (yv_move rfl) (qs_y rfl rfl (yv_move rfl) ?_))
          refine qs_y rfl rfl (yv_index T.sl22 rfl rfl (Heap.rdw T.el22_encI hH21 (n := 2) rfl).is (by omega)) ?_
          refine qs_y rfl rfl (yv_load T.one3 rfl (fun _ hw => Rd.at (Heap.rdw T.el22_encI hw (n := 0) rfl) (i := (l.length : Int) - 1 - (q : Int)) (by omega) (j := 0) rfl)) ?_
          refine qs_nil ?_
          refine any_all [5, 12] (by kernel_rfl) rfl ?_
          refine ⟨⟨_, rfl, ?_⟩, ⟨_, rfl, ?_⟩, trivial⟩
          · skip
            refine op_lit (us := [(0, (.int .i64 (nth l ((l.length : Int) - 1 - (q : Int)))))]) T.el30_encI [nth l ((l.length : Int) - 1 - (q : Int))] rfl (by decide) rfl (fun a ha => by simp [ha.ev (show ev _ (.tmp 51) = some _ from rfl)]) (fun w => by kernel_rfl) hH21 (fun u22 lo24 hi25 w23 hH26 => ?_)
            refine ops_nil ?_
            refine ⟨(hH26.sub (List.Sublist.cons _ (List.Sublist.cons _ (List.Sublist.cons _ (List.Sublist.refl _))))), ?_⟩
            refine any_all [6, 12] (by kernel_rfl) rfl ?_
            refine ⟨⟨_, rfl, ?_⟩, ⟨_, rfl, ?_⟩, trivial⟩
            · skip
              refine op_append (n := 2) T.el30_encI rfl rfl rfl hH26 rfl (Heap.rdw T.el30_encI hH26 (n := 0) rfl) (by first | omega | (simp only [List.length_append, List.length_cons, List.length_nil]; omega)) (fun u27 lo29 hi30 w28 hH31 => ?_)
              refine ops_nil ?_
              refine ⟨(hH31.sub (List.Sublist.cons _ (List.Sublist.cons _ (List.Sublist.cons _ (List.Sublist.refl _))))), ?_⟩
              refine any_all [12] (by kernel_rfl) rfl ?_
              refine ⟨⟨_, rfl, ?_⟩, trivial⟩
              · skip
                refine op_lit (us := [(0, (.int .i64 (nth (Q.T.dep 0 (Q.gr l.length by_)) ((l.length : Int) - 1 - (q : Int)))))]) T.el22_encI [nth (Q.T.dep 0 (Q.gr l.length by_)) ((l.length : Int) - 1 - (q : Int))] rfl (by decide) rfl (fun a ha => by simp [ha.ev (show ev _ (.tmp 58) = some _ from rfl)]) (fun w => by kernel_rfl) hH31 (fun u32 lo34 hi35 w33 hH36 => ?_)
                refine ops_nil ?_
                refine ⟨(hH36.sub (List.Sublist.cons _ (List.Sublist.cons _ (List.Sublist.cons _ (List.Sublist.cons _ (List.Sublist.refl _)))))), ?_⟩
                refine any_all [13] (by kernel_rfl) rfl ?_
                refine ⟨⟨_, rfl, ?_⟩, trivial⟩
                · skip
                  refine op_append (n := 2) T.el22_encI rfl rfl rfl hH36 rfl (Heap.rdw T.el22_encI hH36 (n := 0) rfl) (by first | omega | (simp only [List.length_append, List.length_cons, List.length_nil]; omega)) (fun u37 lo39 hi40 w38 hH41 => ?_)
                  refine ops_nil ?_
                  refine ⟨(hH41.sub (List.Sublist.cons _ (List.Sublist.cons _ (List.Sublist.cons _ (List.Sublist.cons _ (List.Sublist.refl _)))))), ?_⟩
                  refine any_takes [14, 15] (by kernel_rfl) (hH41.sub (List.Sublist.cons _ (List.Sublist.cons _ (List.Sublist.cons _ (List.Sublist.cons _ (List.Sublist.refl _)))))) _ _ _ (by kernel_rfl) ?_
                  refine qs_y rfl rfl (yv_assign rfl) (qs_y rfl rfl (yv_assign rfl) (qs_nil ?_))
                  refine any_done (by kernel_rfl) ?_
                  refine blk_n (thn_n (region (ops_y hH41 rfl rfl (yv_move rfl) ?_)))
                  refine ops_y hH41 rfl rfl (yv_sub rfl rfl (by omega)) ?_
                  refine ops_y hH41 rfl rfl (yv_assign rfl) (ops_nil ?_)
                  have hH42 := (hH41.sub (List.Sublist.cons _ (List.Sublist.cons _ (List.Sublist.refl _))))
                  refine lp_n (q + 1, u27, lo29, hi30, u37, lo39, hi40) (Sub.cons (congrArg (fun z : Int => some (Value.int .i64 z)) (by omega)) (Sub.cons rfl (Sub.cons rfl (Sub.cons rfl (Sub.cons rfl (Sub.cons rfl (Sub.cons rfl (Sub.nil _)))))))) ?_ ?_
                  · exact ⟨(Heap.recast (n := 0) (Heap.recast (n := 1) hH42 rfl (rev_take rfl (by omega))) rfl (rev_take (by omega) (by omega))), by omega⟩
                  · first | (dsimp only; omega) | (show _ < _; omega)
            · skip
              refine op_lit (us := [(0, (.int .i64 (nth (Q.T.dep 0 (Q.gr l.length by_)) ((l.length : Int) - 1 - (q : Int)))))]) T.el22_encI [nth (Q.T.dep 0 (Q.gr l.length by_)) ((l.length : Int) - 1 - (q : Int))] rfl (by decide) rfl (fun a ha => by simp [ha.ev (show ev _ (.tmp 58) = some _ from rfl)]) (fun w => by kernel_rfl) hH26 (fun u43 lo45 hi46 w44 hH47 => ?_)
              refine ops_nil ?_
              refine ⟨(hH47.sub (List.Sublist.cons _ (List.Sublist.cons _ (List.Sublist.cons _ (List.Sublist.cons _ (List.Sublist.refl _)))))), ?_⟩
              refine any_all [6] (by kernel_rfl) rfl ?_
              refine ⟨⟨_, rfl, ?_⟩, trivial⟩
              · skip
                refine op_append (n := 3) T.el30_encI rfl rfl rfl hH47 rfl (Heap.rdw T.el30_encI hH47 (n := 1) rfl) (by first | omega | (simp only [List.length_append, List.length_cons, List.length_nil]; omega)) (fun u48 lo50 hi51 w49 hH52 => ?_)
                refine ops_nil ?_
                refine ⟨(hH52.sub (List.Sublist.cons _ (List.Sublist.cons _ (List.Sublist.cons _ (List.Sublist.cons _ (List.Sublist.refl _)))))), ?_⟩
                refine any_all [13] (by kernel_rfl) rfl ?_
                refine ⟨⟨_, rfl, ?_⟩, trivial⟩
                · skip
                  refine op_append (n := 2) T.el22_encI rfl rfl rfl hH52 rfl (Heap.rdw T.el22_encI hH52 (n := 0) rfl) (by first | omega | (simp only [List.length_append, List.length_cons, List.length_nil]; omega)) (fun u53 lo55 hi56 w54 hH57 => ?_)
                  refine ops_nil ?_
                  refine ⟨(hH57.sub (List.Sublist.cons _ (List.Sublist.cons _ (List.Sublist.cons _ (List.Sublist.cons _ (List.Sublist.refl _)))))), ?_⟩
                  refine any_takes [14, 15] (by kernel_rfl) (hH57.sub (List.Sublist.cons _ (List.Sublist.cons _ (List.Sublist.cons _ (List.Sublist.cons _ (List.Sublist.refl _)))))) _ _ _ (by kernel_rfl) ?_
                  refine qs_y rfl rfl (yv_assign rfl) (qs_y rfl rfl (yv_assign rfl) (qs_nil ?_))
                  refine any_done (by kernel_rfl) ?_
                  refine blk_n (thn_n (region (ops_y hH57 rfl rfl (yv_move rfl) ?_)))
                  refine ops_y hH57 rfl rfl (yv_sub rfl rfl (by omega)) ?_
                  refine ops_y hH57 rfl rfl (yv_assign rfl) (ops_nil ?_)
                  have hH58 := (hH57.sub (List.Sublist.cons _ (List.Sublist.cons _ (List.Sublist.refl _))))
                  refine lp_n (q + 1, u48, lo50, hi51, u53, lo55, hi56) (Sub.cons (congrArg (fun z : Int => some (Value.int .i64 z)) (by omega)) (Sub.cons rfl (Sub.cons rfl (Sub.cons rfl (Sub.cons rfl (Sub.cons rfl (Sub.cons rfl (Sub.nil _)))))))) ?_ ?_
                  · exact ⟨(Heap.recast (n := 0) (Heap.recast (n := 1) hH58 rfl (rev_take rfl (by omega))) rfl (rev_take (by omega) (by omega))), by omega⟩
                  · first | (dsimp only; omega) | (show _ < _; omega)
          · skip
            refine op_lit (us := [(0, (.int .i64 (nth (Q.T.dep 0 (Q.gr l.length by_)) ((l.length : Int) - 1 - (q : Int)))))]) T.el22_encI [nth (Q.T.dep 0 (Q.gr l.length by_)) ((l.length : Int) - 1 - (q : Int))] rfl (by decide) rfl (fun a ha => by simp [ha.ev (show ev _ (.tmp 58) = some _ from rfl)]) (fun w => by kernel_rfl) hH21 (fun u59 lo61 hi62 w60 hH63 => ?_)
            refine ops_nil ?_
            refine ⟨(hH63.sub (List.Sublist.cons _ (List.Sublist.cons _ (List.Sublist.cons _ (List.Sublist.refl _))))), ?_⟩
            refine any_all [5] (by kernel_rfl) rfl ?_
            refine ⟨⟨_, rfl, ?_⟩, trivial⟩
            · skip
              refine op_lit (us := [(0, (.int .i64 (nth l ((l.length : Int) - 1 - (q : Int)))))]) T.el30_encI [nth l ((l.length : Int) - 1 - (q : Int))] rfl (by decide) rfl (fun a ha => by simp [ha.ev (show ev _ (.tmp 51) = some _ from rfl)]) (fun w => by kernel_rfl) hH63 (fun u64 lo66 hi67 w65 hH68 => ?_)
              refine ops_nil ?_
              refine ⟨(hH68.sub (List.Sublist.cons _ (List.Sublist.cons _ (List.Sublist.cons _ (List.Sublist.cons _ (List.Sublist.refl _)))))), ?_⟩
              refine any_all [6] (by kernel_rfl) rfl ?_
              refine ⟨⟨_, rfl, ?_⟩, trivial⟩
              · skip
                refine op_append (n := 3) T.el30_encI rfl rfl rfl hH68 rfl (Heap.rdw T.el30_encI hH68 (n := 0) rfl) (by first | omega | (simp only [List.length_append, List.length_cons, List.length_nil]; omega)) (fun u69 lo71 hi72 w70 hH73 => ?_)
                refine ops_nil ?_
                refine ⟨(hH73.sub (List.Sublist.cons _ (List.Sublist.cons _ (List.Sublist.cons _ (List.Sublist.cons _ (List.Sublist.refl _)))))), ?_⟩
                refine any_all [13] (by kernel_rfl) rfl ?_
                refine ⟨⟨_, rfl, ?_⟩, trivial⟩
                · skip
                  refine op_append (n := 2) T.el22_encI rfl rfl rfl hH73 rfl (Heap.rdw T.el22_encI hH73 (n := 1) rfl) (by first | omega | (simp only [List.length_append, List.length_cons, List.length_nil]; omega)) (fun u74 lo76 hi77 w75 hH78 => ?_)
                  refine ops_nil ?_
                  refine ⟨(hH78.sub (List.Sublist.cons _ (List.Sublist.cons _ (List.Sublist.cons _ (List.Sublist.cons _ (List.Sublist.refl _)))))), ?_⟩
                  refine any_takes [14, 15] (by kernel_rfl) (hH78.sub (List.Sublist.cons _ (List.Sublist.cons _ (List.Sublist.cons _ (List.Sublist.cons _ (List.Sublist.refl _)))))) _ _ _ (by kernel_rfl) ?_
                  refine qs_y rfl rfl (yv_assign rfl) (qs_y rfl rfl (yv_assign rfl) (qs_nil ?_))
                  refine any_done (by kernel_rfl) ?_
                  refine blk_n (thn_n (region (ops_y hH78 rfl rfl (yv_move rfl) ?_)))
                  refine ops_y hH78 rfl rfl (yv_sub rfl rfl (by omega)) ?_
                  refine ops_y hH78 rfl rfl (yv_assign rfl) (ops_nil ?_)
                  have hH79 := (hH78.sub (List.Sublist.cons _ (List.Sublist.cons _ (List.Sublist.refl _))))
                  refine lp_n (q + 1, u69, lo71, hi72, u74, lo76, hi77) (Sub.cons (congrArg (fun z : Int => some (Value.int .i64 z)) (by omega)) (Sub.cons rfl (Sub.cons rfl (Sub.cons rfl (Sub.cons rfl (Sub.cons rfl (Sub.cons rfl (Sub.nil _)))))))) ?_ ?_
                  · exact ⟨(Heap.recast (n := 0) (Heap.recast (n := 1) hH79 rfl (rev_take rfl (by omega))) rfl (rev_take (by omega) (by omega))), by omega⟩
                  · first | (dsimp only; omega) | (show _ < _; omega)
        · skip
          refine cond_f rfl (decide_eq_false hc18) ?_
          refine exit (thn_x (lp_x (blk_here (thn_n (seq ?_)))))
          have hqn : q = l.length := by omega
          have hlr : l.reverse.take q = l.reverse := List.take_of_length_le (by rw [List.length_reverse]; omega)
          have hgr : (Q.T.dep 0 (Q.gr l.length by_)).reverse.take q = (Q.T.dep 0 (Q.gr l.length by_)).reverse := List.take_of_length_le (by rw [List.length_reverse]; omega)
          have hub : Q.Up ((Q.T.dep 0 (Q.gr l.length by_)).reverse.take q) := fun x hx => hgu x (List.mem_reverse.1 (List.mem_of_mem_take hx))
          have hk1 := Q.cost_tree (t := Q.gr l.length by_) hc0 hgs
          have hk2 := Q.cost_rev (t := Q.gr l.length by_) hc0 hgs
          have hk3 := Q.le2 hc0
          have hk4 := Q.least_rev hc0
          have hk5 := Q.ma2 hc0
          have hk6 := Q.many_rev hc0
          have hk7 : Q.rootsR l 0 ((l.length : Int) - 1) = ((Q.rootsI l 0 l.length), 0) := by rw [Q.ro3 hc0 (by omega), show ((l.length : Int) - 1).toNat + 1 = l.length by omega]; rfl
          have hk8 : Q.rootsR l.reverse 0 ((l.length : Int) - 1) = ((Q.rootsI l.reverse 0 l.length), 0) := by rw [Q.ro3 (Q.ckW_rev hc0) (by rw [List.length_reverse]; omega), show ((l.length : Int) - 1).toNat + 1 = l.length by omega]; rfl
          obtain ⟨hv1, hv2⟩ := Q.rootsI_rev (w := l)
          have hp0 := Q.rootsI_pos (w := l) (i := 0) (k := l.length) (by omega)
          refine region (ops_y hH17 rfl rfl (yv_move rfl) (ops_y hH17 rfl rfl (yv_move rfl) ?_))
          refine op_fnV rfl rfl rfl hH17 ((by have h := c23 (h0.now hH17 (n := 3) rfl) (Heap.rdw T.el22_encI hH17 (n := 2) rfl) (by omega) (by omega) hgu (w := w16); simp only [hk1] at h; exact h)) (fun w80 hH81 => ?_)
          refine ops_y hH81 rfl rfl (yv_move rfl) (ops_y hH81 rfl rfl (yv_extract rfl rfl) (ops_y hH81 rfl rfl (yv_extract rfl rfl) (ops_y hH81 rfl rfl (yv_assign rfl) (ops_y hH81 rfl rfl (yv_assign rfl) (ops_nil (thn_n (seq (region (ops_y hH81 rfl rfl (yv_move rfl) ?_)))))))))
          refine ops_y hH81 rfl rfl (yv_move rfl) ?_
          refine op_fnV rfl rfl rfl hH81 ((by have h := c23 (Heap.rdw T.el30_encI hH81 (n := 1) rfl) (Heap.rdw T.el22_encI hH81 (n := 0) rfl) (by omega) (by omega) hub (w := w80); simp only [hlr, hgr, hk2] at h; exact h)) (fun w82 hH83 => ?_)
          refine ops_y hH83 rfl rfl (yv_move rfl) (ops_y hH83 rfl rfl (yv_extract rfl rfl) (ops_y hH83 rfl rfl (yv_extract rfl rfl) (ops_y hH83 rfl rfl (yv_assign rfl) (ops_y hH83 rfl rfl (yv_assign rfl) (ops_nil (thn_n (seq (region (ops_y hH83 rfl rfl (yv_move rfl) ?_)))))))))
          refine op_fnV rfl rfl rfl hH83 ((by have h := c25 (h0.now hH83 (n := 3) rfl) (by omega) (w := w82); simp only [hk3] at h; exact h)) (fun w84 hH85 => ?_)
          refine ops_y hH85 rfl rfl (yv_move rfl) (ops_y hH85 rfl rfl (yv_extract rfl rfl) (ops_y hH85 rfl rfl (yv_extract rfl rfl) (ops_y hH85 rfl rfl (yv_assign rfl) (ops_y hH85 rfl rfl (yv_assign rfl) (ops_nil (thn_n (seq (region (ops_y hH85 rfl rfl (yv_move rfl) ?_)))))))))
          refine op_fnV rfl rfl rfl hH85 ((by have h := c25 (Heap.rdw T.el30_encI hH85 (n := 1) rfl) (by omega) (w := w84); simp only [hlr, hk4] at h; exact h)) (fun w86 hH87 => ?_)
          refine ops_y hH87 rfl rfl (yv_move rfl) (ops_y hH87 rfl rfl (yv_extract rfl rfl) (ops_y hH87 rfl rfl (yv_extract rfl rfl) (ops_y hH87 rfl rfl (yv_assign rfl) (ops_y hH87 rfl rfl (yv_assign rfl) (ops_nil (thn_n (seq (region (ops_y hH87 rfl rfl (yv_move rfl) ?_)))))))))
          refine op_fnV rfl rfl rfl hH87 ((by have h := c29 (h0.now hH87 (n := 3) rfl) (by omega) (w := w86); simp only [hk5] at h; exact h)) (fun w88 hH89 => ?_)
          refine ops_y hH89 rfl rfl (yv_move rfl) (ops_y hH89 rfl rfl (yv_extract rfl rfl) (ops_y hH89 rfl rfl (yv_extract rfl rfl) (ops_y hH89 rfl rfl (yv_assign rfl) (ops_y hH89 rfl rfl (yv_assign rfl) (ops_nil (thn_n (seq (region (ops_y hH89 rfl rfl (yv_move rfl) ?_)))))))))
          refine op_fnV rfl rfl rfl hH89 ((by have h := c29 (Heap.rdw T.el30_encI hH89 (n := 1) rfl) (by omega) (w := w88); simp only [hlr, hk6] at h; exact h)) (fun w90 hH91 => ?_)
          refine ops_y hH91 rfl rfl (yv_move rfl) (ops_y hH91 rfl rfl (yv_extract rfl rfl) (ops_y hH91 rfl rfl (yv_extract rfl rfl) (ops_y hH91 rfl rfl (yv_assign rfl) (ops_y hH91 rfl rfl (yv_assign rfl) (ops_nil (thn_n (seq (region (ops_y hH91 rfl rfl (yv_move rfl) ?_)))))))))
          refine ops_y hH91 rfl rfl (yv_move rfl) ?_
          refine ops_y hH91 rfl rfl (yv_sub rfl rfl (by omega)) ?_
          refine op_fn rfl rfl rfl hH91 ((by have h := c47 (h0.now hH91 (n := 3) rfl) (by omega) (a := 0) (b := (l.length : Int) - 1) (w := w90); simp only [hk7] at h; exact h)) (fun u94 w92 lo95 hi96 hH93 hv97 => ?_)
          obtain ⟨p99, hu, -⟩ := hv97
          subst hu
          have hH98 := Heap.tup2 hH93 (n := 0) rfl
          refine ops_y hH98 rfl rfl (yv_move rfl) (ops_y hH98 rfl rfl (yv_extract rfl rfl) (ops_y hH98 rfl rfl (yv_extract rfl rfl) (ops_y hH98 rfl rfl (yv_assign rfl) (ops_y hH98 rfl rfl (yv_assign rfl) (ops_nil (thn_n (seq (region (ops_y hH98 rfl rfl (yv_move rfl) ?_)))))))))
          refine ops_y hH98 rfl rfl (yv_move rfl) ?_
          refine ops_y hH98 rfl rfl (yv_sub rfl rfl (by omega)) ?_
          refine op_fn rfl rfl rfl hH98 ((by have h := c47 (Heap.rdw T.el30_encI hH98 (n := 2) rfl) (by omega) (a := 0) (b := (l.length : Int) - 1) (w := w92); simp only [hlr, hk8] at h; exact h)) (fun u102 w100 lo103 hi104 hH101 hv105 => ?_)
          obtain ⟨p107, hu, -⟩ := hv105
          subst hu
          have hH106 := Heap.tup2 hH101 (n := 0) rfl
          refine ops_y hH106 rfl rfl (yv_move rfl) (ops_y hH106 rfl rfl (yv_extract rfl rfl) (ops_y hH106 rfl rfl (yv_extract rfl rfl) (ops_y hH106 rfl rfl (yv_assign rfl) (ops_y hH106 rfl rfl (yv_assign rfl) (ops_nil (thn_n (seq (seq (region ?_)))))))))
          refine ops_y hH106 rfl rfl (yv_move rfl) ?_
          refine ops_y hH106 rfl rfl (yv_castB rfl (yv_neq rfl rfl)) ?_
          refine ops_y hH106 rfl rfl (yv_move rfl) (guard_yes rfl rfl rfl (ops_y hH106 rfl rfl (yv_move rfl) (guard_yes rfl rfl rfl ?_)))
          refine ops_y hH106 rfl rfl (yv_castB rfl (yv_neq rfl rfl)) ?_
          refine ops_y hH106 rfl rfl (yv_pick_f rfl rfl rfl) ?_
          refine ops_y hH106 rfl rfl (yv_move rfl) (guard_yes rfl rfl rfl (ops_y hH106 rfl rfl (yv_move rfl) (guard_yes rfl rfl rfl ?_)))
          refine ops_y hH106 rfl rfl (yv_castB rfl (yv_neq rfl rfl)) ?_
          refine ops_y hH106 rfl rfl (yv_pick_f rfl rfl rfl) ?_
          refine ops_y hH106 rfl rfl (yv_move rfl) (guard_yes rfl rfl rfl (ops_y hH106 rfl rfl (yv_move rfl) (guard_yes rfl rfl rfl ?_)))
          refine ops_y hH106 rfl rfl (yv_castB rfl (yv_neq rfl rfl)) ?_
          refine ops_y hH106 rfl rfl (yv_pick_f rfl rfl rfl) ?_
          refine ops_y hH106 rfl rfl (yv_move rfl) (guard_yes rfl rfl rfl (ops_y hH106 rfl rfl (yv_move rfl) (guard_yes rfl rfl rfl ?_)))
          refine ops_y hH106 rfl rfl (yv_castB rfl (yv_neq rfl rfl)) ?_
          refine ops_y hH106 rfl rfl (yv_pick_f rfl rfl rfl) ?_
          refine ops_y hH106 rfl rfl (yv_move rfl) (guard_yes rfl rfl rfl (ops_y hH106 rfl rfl (yv_move rfl) (guard_yes rfl rfl rfl ?_)))
          refine ops_y hH106 rfl rfl (yv_castB rfl (yv_neq rfl rfl)) ?_
          refine ops_y hH106 rfl rfl (yv_pick_f rfl rfl rfl) ?_
          refine ops_y hH106 rfl rfl (yv_move rfl) (guard_yes rfl rfl rfl (ops_y hH106 rfl rfl (yv_move rfl) (guard_yes rfl rfl rfl ?_)))
          refine ops_y hH106 rfl rfl (yv_castB rfl (yv_neq rfl rfl)) ?_
          refine ops_y hH106 rfl rfl (yv_pick_f rfl rfl rfl) ?_
          refine ops_y hH106 rfl rfl (yv_move rfl) (guard_yes rfl rfl rfl (ops_y hH106 rfl rfl (yv_move rfl) (guard_yes rfl rfl rfl ?_)))
          refine ops_y hH106 rfl rfl (yv_castB rfl (yv_neq rfl rfl)) ?_
          refine ops_y hH106 rfl rfl (yv_pick_f rfl rfl rfl) ?_
          refine ops_y hH106 rfl rfl (yv_move rfl) (guard_yes rfl rfl rfl (ops_y hH106 rfl rfl (yv_move rfl) (guard_yes rfl rfl rfl (ops_y hH106 rfl rfl (yv_move rfl) (guard_yes rfl rfl rfl ?_)))))
          refine ops_y hH106 rfl rfl (yv_castB (not_decide_n rfl) (yv_neq rfl rfl)) ?_
          refine ops_y hH106 rfl rfl (yv_pick_f rfl rfl rfl) ?_
          refine ops_y hH106 rfl rfl (yv_move rfl) (guard_yes rfl rfl rfl (ops_y hH106 rfl rfl (yv_move rfl) (guard_yes rfl rfl rfl (ops_y hH106 rfl rfl (yv_move rfl) (guard_yes rfl rfl rfl ?_)))))
          refine ops_y hH106 rfl rfl (yv_castB (not_decide_n rfl) (yv_neq rfl rfl)) ?_
          refine ops_y hH106 rfl rfl (yv_pick_f rfl rfl rfl) ?_
          refine ops_y hH106 rfl rfl (yv_move rfl) (guard_yes rfl rfl rfl (ops_y hH106 rfl rfl (yv_move rfl) (guard_yes rfl rfl rfl (ops_y hH106 rfl rfl (yv_move rfl) (guard_yes rfl rfl rfl ?_)))))
          refine ops_y hH106 rfl rfl (yv_castB (not_decide_n rfl) (yv_neq rfl rfl)) ?_
          refine ops_y hH106 rfl rfl (yv_pick_f rfl rfl rfl) ?_
          refine ops_y hH106 rfl rfl (yv_move rfl) (guard_yes rfl rfl rfl (ops_y hH106 rfl rfl (yv_move rfl) (guard_yes rfl rfl rfl ?_)))
          refine ops_y hH106 rfl rfl (yv_len T.sl22 rfl (Heap.rdw T.el22_encI hH106 (n := 1) rfl).is) ?_
          refine guard_yes rfl rfl rfl (ops_y hH106 rfl rfl (yv_move rfl) (guard_yes rfl rfl rfl ?_))
          refine ops_y hH106 rfl rfl (yv_len T.sl22 rfl (Heap.rdw T.el22_encI hH106 (n := 0) rfl).is) ?_
          refine guard_yes rfl rfl rfl ?_
          refine ops_y hH106 rfl rfl (yv_neq rfl rfl) ?_
          refine ops_y hH106 rfl rfl (yv_pick_f rfl rfl rfl) ?_
          refine ops_nil (thn_n ?_)
          by_cases hc108 : ((Q.rootsI l 0 l.length).length : Int) = ((Q.rootsI l.reverse 0 l.length).length : Int)
          · skip
            refine cond_f rfl (not_decide_n hc108) ?_
            refine skip (thn_n (seq (seq (region (ops_y hH106 rfl rfl (yv_assign rfl) (ops_nil (thn_n (block ?_))))))))
            refine loop (S := Nat) (fun j => [(26, (.int .i64 (j : Int))), (5, (.int .i64 (l.length : Int))), (22, p99), (24, p107)]) (fun j w1 => Heap [ow lo103 hi104 3 1 encI p107 (Q.rootsI l.reverse 0 l.length), ow lo95 hi96 3 1 encI p99 (Q.rootsI l 0 l.length), ow lo_8 hi_8 3 1 encI v_8 ((Q.T.dep 0 (Q.gr l.length by_)).reverse.take q), ow lo_7 hi_7 2 1 encI v_7 (l.reverse.take q), ow lo10 hi11 3 1 encI u9 (Q.T.dep 0 (Q.gr l.length by_)), base w] w1 ∧ j ≤ (Q.rootsI l 0 l.length).length) (fun j => (Q.rootsI l 0 l.length).length - j) (0) (Sub.cons rfl (Sub.cons rfl (Sub.cons rfl (Sub.cons rfl (Sub.nil _))))) ?_ ?_
            · exact ⟨hH106, by omega⟩
            · rintro j w109 ⟨hH110, hj⟩
              show Holds _ _ _ _ _ [(26, (.int .i64 (j : Int))), (5, (.int .i64 (l.length : Int))), (22, p99), (24, p107)] _ _
              refine seq (seq (region (ops_y hH110 rfl rfl (yv_move rfl) (ops_y hH110 rfl rfl (yv_move rfl) ?_))))
              refine ops_y hH110 rfl rfl (yv_len T.sl22 rfl (Heap.rdw T.el22_encI hH110 (n := 1) rfl).is) ?_
              refine ops_y hH110 rfl rfl (yv_lss rfl rfl) ?_
              refine ops_nil (thn_n ?_)
              by_cases hc111 : (j : Int) < ((Q.rootsI l 0 l.length).length : Int)
              · skip
                refine cond_t rfl (decide_eq_true hc111) ?_
                refine skip (thn_n (seq (block (seq ?_))))
                have hvj := hv2 j (by omega)
                have hjb : nth (Q.rootsI l.reverse 0 l.length) (((Q.rootsI l.reverse 0 l.length).length : Int) - 1 - (j : Int)) = (l.length : Int) - 1 - nth (Q.rootsI l 0 l.length) (j : Int) := by omega
                obtain ⟨rr, hrr, hRt⟩ := Q.rootsI_mem (w := l) (i := 0) (k := l.length) (q := j) (by omega)
                have hRb : rr < l.length := hRt.2.1
                refine region_draw (fun w' => Heap [ow lo103 hi104 3 1 encI p107 (Q.rootsI l.reverse 0 l.length), ow lo95 hi96 3 1 encI p99 (Q.rootsI l 0 l.length), ow lo_8 hi_8 3 1 encI v_8 ((Q.T.dep 0 (Q.gr l.length by_)).reverse.take q), ow lo_7 hi_7 2 1 encI v_7 (l.reverse.take q), ow lo10 hi11 3 1 encI u9 (Q.T.dep 0 (Q.gr l.length by_)), base w] w') T.mixed (fun w112 hr113 => ?_)
                have hH114 := hH110.redrawn hr113
                refine any_takes [0, 1, 2, 3, 4, 5, 6, 7, 8, 9, 10, 11, 12, 13, 14, 15] (by kernel_rfl) hH114 _ _ _ (by kernel_rfl) ?_
                refine qs_y rfl rfl (yv_move rfl) (qs_y rfl rfl (yv_move rfl) ?_)
                refine qs_y rfl rfl (yv_index T.sl22 rfl rfl (Heap.rdw T.el22_encI hH114 (n := 1) rfl).is (by omega)) ?_
                refine qs_y rfl rfl (yv_load T.one3 rfl (fun _ hw => Rd.at (Heap.rdw T.el22_encI hw (n := 1) rfl) (i := (j : Int)) (by omega) (j := 0) rfl)) ?_
                refine qs_y rfl rfl (yv_move rfl) ?_
                refine qs_y rfl rfl (yv_sub rfl rfl (by omega)) ?_
                refine qs_y rfl rfl (yv_move rfl) (qs_y rfl rfl (yv_move rfl) ?_)
                refine qs_y rfl rfl (yv_len T.sl22 rfl (Heap.rdw T.el22_encI hH114 (n := 0) rfl).is) ?_
                refine qs_y rfl rfl (yv_sub rfl rfl (by omega)) ?_
                refine qs_y rfl rfl (yv_move rfl) ?_
                refine qs_y rfl rfl (yv_sub rfl rfl (by omega)) ?_
                refine qs_y rfl rfl (yv_index T.sl22 rfl rfl (Heap.rdw T.el22_encI hH114 (n := 0) rfl).is (by omega)) ?_
                refine qs_y rfl rfl (yv_load T.one3 rfl (fun _ hw => Rd.at (Heap.rdw T.el22_encI hw (n := 0) rfl) (i := (((Q.rootsI l.reverse 0 l.length).length : Int) - 1) - (j : Int)) (by omega) (j := 0) rfl)) ?_
                refine qs_y rfl rfl (yv_sub rfl rfl (by omega)) ?_
                refine qs_y rfl rfl (yv_neq rfl rfl) ?_
                refine qs_nil ?_
                refine any_done (by kernel_rfl) ?_
                refine thn_n ?_
                by_cases hc115 : (nth (Q.rootsI l 0 l.length) (j : Int)) = (((l.length : Int) - 1) - (nth (Q.rootsI l.reverse 0 l.length) ((((Q.rootsI l.reverse 0 l.length).length : Int) - 1) - (j : Int))))
                · skip
                  refine cond_f rfl (not_decide_n hc115) ?_
                  refine skip (blk_n (thn_n (region (ops_y hH114 rfl rfl (yv_move rfl) ?_))))
                  refine ops_y hH114 rfl rfl (yv_add rfl rfl (by omega)) ?_
                  refine ops_y hH114 rfl rfl (yv_assign rfl) (ops_nil ?_)
                  refine lp_n (j + 1) (Sub.cons rfl (Sub.cons rfl (Sub.cons rfl (Sub.cons rfl (Sub.nil _))))) ?_ ?_
                  · exact ⟨hH114, by omega⟩
                  · first | (dsimp only; omega) | (show _ < _; omega)
                · skip
                  refine cond_t rfl (not_decide_t hc115) ?_
                  refine seq (region (ops_y hH114 rfl rfl (yv_assign rfl) (ops_nil (thn_n (ret (blk_r (thn_r (lp_r (blk_r ?_)))))))))
                  refine thn_r ?_
                  have hH116 := (hH114.sub (List.Sublist.cons _ (List.Sublist.cons _ (List.Sublist.cons _ (List.Sublist.cons _ (List.Sublist.cons _ (List.Sublist.refl _)))))))
                  refine fin hH116 (fun w' hf => (res1 rfl (show RV _ _ _ (.tmp 4) _ from rfl))) (fun w' hf => ?_)
                  first | rfl | (exfalso; omega)
              · skip
                refine cond_f rfl (decide_eq_false hc111) ?_
                refine exit (thn_x (lp_x (blk_here (thn_n (seq (region ?_))))))
                refine op_fnV rfl rfl rfl hH110 (c16) (fun w117 hH118 => ?_)
                refine ops_y hH118 rfl rfl (yv_assign rfl) (ops_nil (thn_n (ret ?_)))
                have hH119 := (hH118.sub (List.Sublist.cons _ (List.Sublist.cons _ (List.Sublist.cons _ (List.Sublist.cons _ (List.Sublist.cons _ (List.Sublist.refl _)))))))
                refine fin hH119 (fun w' hf => (res1 rfl (show RV _ _ _ (.tmp 4) _ from rfl))) (fun w' hf => ?_)
                first | rfl | (exfalso; omega)
          · skip
            refine cond_t rfl (not_decide_t hc108) ?_
            refine seq (region (ops_y hH106 rfl rfl (yv_assign rfl) (ops_nil (thn_n (ret (thn_r ?_))))))
            have hH120 := (hH106.sub (List.Sublist.cons _ (List.Sublist.cons _ (List.Sublist.cons _ (List.Sublist.cons _ (List.Sublist.cons _ (List.Sublist.refl _)))))))
            refine fin hH120 (fun w' hf => (res1 rfl (show RV _ _ _ (.tmp 4) _ from rfl))) (fun w' hf => ?_)
            first | rfl | (exfalso; omega)
  · skip
    have hcn : ¬ Q.ckW l = 0 := ‹_›
    refine region (ops_y hH rfl rfl (yv_move rfl) ?_)
    refine op_fnV rfl rfl rfl hH (c41 (h0.now hH (n := 0) rfl)) (fun w121 hH122 => ?_)
    refine ops_y hH122 rfl rfl (yv_castB (bnot_t (decide_eq_false hc1)) (yv_not rfl)) ?_
    refine ops_y hH122 rfl rfl (yv_move rfl) (guard_no rfl rfl rfl rfl (guard_no rfl rfl rfl rfl (guard_no rfl rfl rfl rfl ?_)))
    refine ops_y hH122 rfl rfl (yv_pick_t rfl rfl rfl) ?_
    refine ops_nil (thn_n ?_)
    refine cond_t rfl rfl ?_
    refine seq (region ?_)
    refine op_fnV rfl rfl rfl hH122 (c16) (fun w123 hH124 => ?_)
    refine ops_y hH124 rfl rfl (yv_assign rfl) (ops_nil (thn_n (ret (thn_r ?_))))
    refine fin hH124 (fun w' hf => (res1 rfl (show RV _ _ _ (.tmp 4) _ from rfl))) (fun w' hf => ?_)
    first | rfl | (exfalso; omega)

end Go.Fip
