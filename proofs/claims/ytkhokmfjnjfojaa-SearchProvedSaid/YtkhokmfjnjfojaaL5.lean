/- Walks, by program (wip/tools). -/
import Derived.Test.YtkhokmfjnjfojaaMI
import Derived.Test.YtkhokmfjnjfojaaMJ
set_option linter.unusedVariables false
set_option linter.unusedSimpArgs false
set_option linter.unusedSectionVars false
set_option linter.unnecessarySimpa false
namespace Go.Fip
open Go.Proofs Go.RowKit

theorem yv_neqB {P : Program} {N : Nat} {ds : List Deferred} {env : Env} {S : World → Prop} {x y : Operand} {T T' : TypeId} {a b : Bool} (hT : P.underlying T = some .bool) (hz : a = b) (hx : ev env x = some (.bool a)) (hy : ev env y = some (.bool b)) : Yv P N ds env (.binOp .neq T x y T') (.bool false) S := fun act hact w _ _ _ _ _ _ => by
  subst hz
  have h := run_neq_bool (P := P) w T a a hT
  rw [show (!(a == a)) = false by simp] at h
  simp [execOp, hact.ev hx, hact.ev hy, eqGuard, h, Result.andThen]

set_option maxHeartbeats 1000000 in
theorem c10 {vb : Value} {by_ : List Int} {w : World} (hby : Rd encB 1 vb by_ w) (hb5 : ∀ n ∈ by_, 0 ≤ n ∧ n ≤ 255) {a b c : Int} (ha : 0 ≤ a ∧ a ≤ 255) (hb : 0 ≤ b ∧ b ≤ 65535) (hc : 0 ≤ c ∧ c ≤ 65535)  :
    Fn Try.prog 10 [(.int .u8 a), (.int .u16 b), (.int .u16 c), vb].toArray w (fun u _ => u = .bool true) := by
  refine fn_of' (args := [(.int .u8 a), (.int .u16 b), (.int .u16 c), vb]) Try.func10 rfl (ent Try.func10 (by kernel_rfl) rfl) rfl rfl (fun hH => ?_)
  refine seq (region (ops_y hH rfl rfl (yv_assign rfl) (ops_nil (thn_n (seq (seq (region (ops_y hH rfl rfl (yv_move rfl) ?_))))))))
  refine ops_y hH rfl rfl (yv_len T.sl44 rfl ((hby.now hH (n := 0) rfl)).is) ?_
  refine ops_y hH rfl rfl (yv_gtr rfl rfl) ?_
  refine ops_nil (thn_n ?_)
  by_cases hc1 : 60 < (by_.length : Int)
  · skip
    refine cond_t rfl (decide_eq_true hc1) ?_
    refine seq (region ?_)
    refine op_fnV rfl rfl rfl hH (c16) (fun w2 hH3 => ?_)
    refine ops_y hH3 rfl rfl (yv_assign rfl) (ops_nil (thn_n (ret (thn_r ?_))))
    refine fin hH3 (fun w' hf => (res1 rfl (show RV _ _ _ (.tmp 8) _ from rfl))) (fun w' hf => ?_)
    first | rfl | (exfalso; omega)
  · skip
    refine cond_f rfl (decide_eq_false hc1) ?_
    refine skip (thn_n (seq ?_))
    obtain ⟨n, hn⟩ : ∃ n : Nat, (n : Int) = 1 + a % 8 := ⟨(1 + a % 8).toNat, by omega⟩
    have hn1 : 1 ≤ n ∧ n ≤ 8 := by omega
    have hco := Q.count_ok (k := n) hn1.1 (by omega)
    have hcb := Q.cnt8 n hn1.2
    have hlen := Q.treesL_len (n := n) (by omega)
    refine region (ops_y hH rfl rfl (yv_move rfl) ?_)
    refine ops_y hH rfl rfl (yv_conv Try.underlying5 Try.underlying3 rfl (wrap_i64 (by omega))) ?_
    refine ops_y hH rfl rfl (yv_rem rfl rfl (by omega) (by omega)) ?_
    refine ops_y hH rfl rfl (yv_cast (show _ = (n : Int) by omega) (yv_add rfl rfl (by omega))) ?_
    refine ops_y hH rfl rfl (yv_assign rfl) (ops_nil (thn_n (seq (region (ops_y hH rfl rfl (yv_move rfl) ?_)))))
    refine op_fnV rfl rfl rfl hH ((by have h := c35 (n := (n : Int)) (w := w); simp only [hco] at h; exact h)) (fun w4 hH5 => ?_)
    refine ops_y hH5 rfl rfl (yv_move rfl) (ops_y hH5 rfl rfl (yv_extract rfl rfl) (ops_y hH5 rfl rfl (yv_extract rfl rfl) (ops_y hH5 rfl rfl (yv_assign rfl) (ops_y hH5 rfl rfl (yv_assign rfl) (ops_nil (thn_n (seq (seq (region ?_)))))))))
    refine ops_y hH5 rfl rfl (yv_move rfl) ?_
    refine ops_y hH5 rfl rfl (yv_castB rfl (yv_neq rfl rfl)) ?_
    refine ops_y hH5 rfl rfl (yv_move rfl) (guard_yes rfl rfl rfl (ops_y hH5 rfl rfl (yv_move rfl) (guard_yes rfl rfl rfl (ops_y hH5 rfl rfl (yv_move rfl) (guard_yes rfl rfl rfl ?_)))))
    refine op_fnV rfl rfl rfl hH5 ((by have h := c50 (n := (n : Int)) (w := w4) (by omega) (by omega); rw [Int.toNat_natCast] at h; exact h)) (fun w6 hH7 => ?_)
    refine guard_yes rfl rfl rfl ?_
    refine ops_y hH7 rfl rfl (yv_castB (not_decide_n rfl) (yv_neq rfl rfl)) ?_
    refine ops_y hH7 rfl rfl (yv_pick_f rfl rfl rfl) ?_
    refine ops_nil (thn_n ?_)
    refine cond_f rfl rfl ?_
    refine skip (thn_n (seq ?_))
    obtain ⟨i, hi⟩ : ∃ i : Nat, (i : Int) = b % (Q.cnt n : Int) := ⟨(b % (Q.cnt n : Int)).toNat, Int.toNat_of_nonneg (Int.emod_nonneg b (by omega))⟩
    obtain ⟨k, hk⟩ : ∃ k : Nat, (k : Int) = c % (Q.cnt n : Int) := ⟨(c % (Q.cnt n : Int)).toNat, Int.toNat_of_nonneg (Int.emod_nonneg c (by omega))⟩
    have hi9 := Int.emod_lt_of_pos b (b := (Q.cnt n : Int)) (by omega)
    have hk9 := Int.emod_lt_of_pos c (b := (Q.cnt n : Int)) (by omega)
    have hA1 := Q.at_nth hn1.1 hn1.2 (k := i) (by omega)
    have hA2 := Q.at_nth hn1.1 hn1.2 (k := k) (by omega)
    obtain ⟨hN1, hT1⟩ := Q.num_nth hn1.1 hn1.2 (i := i) (by omega)
    obtain ⟨hN2, hT2⟩ := Q.num_nth hn1.1 hn1.2 (i := k) (by omega)
    have hL1 := Q.tree_row (n := n) (i := i) (by omega)
    have hL2 := Q.tree_row (n := n) (i := k) (by omega)
    have hS1 := Q.tree_sm (n := n) (i := i) (by omega) (by omega)
    have hS2 := Q.tree_sm (n := n) (i := k) (by omega) (by omega)
    have hU1 : Q.Up (nth (Q.treesL n) (i : Int)) := fun x hx => by have := hS1 x hx; omega
    have hU2 : Q.Up (nth (Q.treesL n) (k : Int)) := fun x hx => by have := hS2 x hx; omega
    have hord := Q.treesL_ord (n := n) (i := i) (k := k) (by omega) (by omega)
    refine region_draw (fun w' => Heap [base w] w') T.mixed (fun w8 hr9 => ?_)
    have hH10 := hH7.redrawn hr9
    refine any_takes [0, 1, 2, 3, 4, 5, 6, 7, 8, 9] (by kernel_rfl) hH10 _ _ _ (by kernel_rfl) ?_
    refine qs_y rfl rfl (yv_move rfl) ?_
    refine qs_y rfl rfl (yv_conv Try.underlying58 Try.underlying2 rfl (wrap_i64 (by omega))) ?_
    refine qs_y rfl rfl (yv_move rfl) ?_
    refine qs_y rfl rfl (yv_cast hi.symm (yv_rem rfl rfl (by omega) (by omega))) ?_
    refine qs_y rfl rfl (yv_move rfl) ?_
    refine qs_y rfl rfl (yv_conv Try.underlying58 Try.underlying2 rfl (wrap_i64 (by omega))) ?_
    refine qs_y rfl rfl (yv_move rfl) ?_
    refine qs_y rfl rfl (yv_cast hk.symm (yv_rem rfl rfl (by omega) (by omega))) ?_
    refine qs_y rfl rfl (yv_assign rfl) (qs_y rfl rfl (yv_assign rfl) (qs_nil ?_))
    refine any_done (by kernel_rfl) ?_
    refine thn_n (seq (region (ops_y hH10 rfl rfl (yv_move rfl) (ops_y hH10 rfl rfl (yv_move rfl) ?_))))
    refine op_fn rfl rfl rfl hH10 ((by have h := c39 (n := (n : Int)) (k := (i : Int)) (w := w8); simp only [hA1] at h; exact h)) (fun u13 w11 lo14 hi15 hH12 hv16 => ?_)
    obtain ⟨p18, hu, -⟩ := hv16
    subst hu
    have hH17 := Heap.tup2 hH12 (n := 0) rfl
    refine ops_y hH17 rfl rfl (yv_move rfl) (ops_y hH17 rfl rfl (yv_extract rfl rfl) (ops_y hH17 rfl rfl (yv_extract rfl rfl) (ops_y hH17 rfl rfl (yv_assign rfl) (ops_y hH17 rfl rfl (yv_assign rfl) (ops_nil (thn_n (seq (region (ops_y hH17 rfl rfl (yv_move rfl) ?_)))))))))
    refine ops_y hH17 rfl rfl (yv_move rfl) ?_
    refine op_fn rfl rfl rfl hH17 ((by have h := c39 (n := (n : Int)) (k := (k : Int)) (w := w11); simp only [hA2] at h; exact h)) (fun u21 w19 lo22 hi23 hH20 hv24 => ?_)
    obtain ⟨p26, hu, -⟩ := hv24
    subst hu
    have hH25 := Heap.tup2 hH20 (n := 0) rfl
    refine ops_y hH25 rfl rfl (yv_move rfl) (ops_y hH25 rfl rfl (yv_extract rfl rfl) (ops_y hH25 rfl rfl (yv_extract rfl rfl) (ops_y hH25 rfl rfl (yv_assign rfl) (ops_y hH25 rfl rfl (yv_assign rfl) (ops_nil (thn_n (seq (seq (region ?_)))))))))
    refine ops_y hH25 rfl rfl (yv_move rfl) ?_
    refine ops_y hH25 rfl rfl (yv_castB rfl (yv_neq rfl rfl)) ?_
    refine ops_y hH25 rfl rfl (yv_move rfl) (guard_yes rfl rfl rfl (ops_y hH25 rfl rfl (yv_move rfl) (guard_yes rfl rfl rfl ?_)))
    refine ops_y hH25 rfl rfl (yv_castB rfl (yv_neq rfl rfl)) ?_
    refine ops_y hH25 rfl rfl (yv_pick_f rfl rfl rfl) ?_
    refine ops_y hH25 rfl rfl (yv_move rfl) (guard_yes rfl rfl rfl (ops_y hH25 rfl rfl (yv_move rfl) (guard_yes rfl rfl rfl ?_)))
    refine op_fnV rfl rfl rfl hH25 ((by have h := c20 (Heap.rdw T.el22_encI hH25 (n := 1) rfl) (by omega) hU1; simp only [hT1] at h; exact h)) (fun w27 hH28 => ?_)
    refine guard_yes rfl rfl rfl ?_
    refine ops_y hH28 rfl rfl (yv_castB rfl (yv_neq rfl rfl)) ?_
    refine ops_y hH28 rfl rfl (yv_pick_f rfl rfl rfl) ?_
    refine ops_y hH28 rfl rfl (yv_move rfl) (guard_yes rfl rfl rfl (ops_y hH28 rfl rfl (yv_move rfl) (guard_yes rfl rfl rfl ?_)))
    refine op_fnV rfl rfl rfl hH28 ((by have h := c20 (Heap.rdw T.el22_encI hH28 (n := 0) rfl) (by omega) hU2; simp only [hT2] at h; exact h)) (fun w29 hH30 => ?_)
    refine guard_yes rfl rfl rfl ?_
    refine ops_y hH30 rfl rfl (yv_castB rfl (yv_neq rfl rfl)) ?_
    refine ops_y hH30 rfl rfl (yv_pick_f rfl rfl rfl) ?_
    refine ops_y hH30 rfl rfl (yv_move rfl) (guard_yes rfl rfl rfl (ops_y hH30 rfl rfl (yv_move rfl) (guard_yes rfl rfl rfl ?_)))
    refine ops_y hH30 rfl rfl (yv_len T.sl22 rfl (Heap.rdw T.el22_encI hH30 (n := 1) rfl).is) ?_
    refine guard_yes rfl rfl rfl (ops_y hH30 rfl rfl (yv_move rfl) (guard_yes rfl rfl rfl ?_))
    refine ops_y hH30 rfl rfl (yv_neq rfl rfl) ?_
    refine ops_y hH30 rfl rfl (yv_pick_f rfl rfl rfl) ?_
    refine ops_y hH30 rfl rfl (yv_move rfl) ?_
    by_cases hc31 : ((nth (Q.treesL n) (i : Int)).length : Int) = (n : Int)
    · skip
      refine guard_yes rfl rfl (not_decide_n hc31) ?_
      refine ops_y hH30 rfl rfl (yv_move rfl) ?_
      refine guard_yes rfl rfl (not_decide_n hc31) ?_
      refine ops_y hH30 rfl rfl (yv_len T.sl22 rfl (Heap.rdw T.el22_encI hH30 (n := 0) rfl).is) ?_
      refine guard_yes rfl rfl (not_decide_n hc31) ?_
      refine ops_y hH30 rfl rfl (yv_move rfl) ?_
      refine guard_yes rfl rfl (not_decide_n hc31) ?_
      refine ops_y hH30 rfl rfl (yv_neq rfl rfl) ?_
      refine ops_y hH30 rfl rfl (yv_pick_f rfl (not_decide_n hc31) rfl) ?_
      refine ops_nil (thn_n ?_)
      by_cases hc32 : ((nth (Q.treesL n) (k : Int)).length : Int) = (n : Int)
      · skip
        refine cond_f rfl (not_decide_n hc32) ?_
        refine skip (thn_n (seq (region (ops_y hH30 rfl rfl (yv_move rfl) ?_))))
        refine op_fnV rfl rfl rfl hH30 ((by have h := c37 (Heap.rdw T.el22_encI hH30 (n := 1) rfl) (by omega) hU1; simp only [hN1] at h; exact h)) (fun w33 hH34 => ?_)
        refine ops_y hH34 rfl rfl (yv_move rfl) (ops_y hH34 rfl rfl (yv_extract rfl rfl) (ops_y hH34 rfl rfl (yv_extract rfl rfl) (ops_y hH34 rfl rfl (yv_assign rfl) (ops_y hH34 rfl rfl (yv_assign rfl) (ops_nil (thn_n (seq (region (ops_y hH34 rfl rfl (yv_move rfl) ?_)))))))))
        refine op_fnV rfl rfl rfl hH34 ((by have h := c37 (Heap.rdw T.el22_encI hH34 (n := 0) rfl) (by omega) hU2; simp only [hN2] at h; exact h)) (fun w35 hH36 => ?_)
        refine ops_y hH36 rfl rfl (yv_move rfl) (ops_y hH36 rfl rfl (yv_extract rfl rfl) (ops_y hH36 rfl rfl (yv_extract rfl rfl) (ops_y hH36 rfl rfl (yv_assign rfl) (ops_y hH36 rfl rfl (yv_assign rfl) (ops_nil (thn_n (seq (seq ?_))))))))
        have hbq : decide ((i : Int) < (k : Int)) = decide (Q.cmpL (nth (Q.treesL n) (i : Int)) (nth (Q.treesL n) (k : Int)) < 0) := decide_eq_decide.2 (by rw [hord]; omega)
        refine region (ops_y hH36 rfl rfl (yv_move rfl) ?_)
        refine ops_y hH36 rfl rfl (yv_castB rfl (yv_neq rfl rfl)) ?_
        refine ops_y hH36 rfl rfl (yv_move rfl) (guard_yes rfl rfl rfl (ops_y hH36 rfl rfl (yv_move rfl) (guard_yes rfl rfl rfl ?_)))
        refine ops_y hH36 rfl rfl (yv_castB rfl (yv_neq rfl rfl)) ?_
        refine ops_y hH36 rfl rfl (yv_pick_f rfl rfl rfl) ?_
        refine ops_y hH36 rfl rfl (yv_move rfl) (guard_yes rfl rfl rfl (ops_y hH36 rfl rfl (yv_move rfl) (guard_yes rfl rfl rfl (ops_y hH36 rfl rfl (yv_move rfl) (guard_yes rfl rfl rfl ?_)))))
        refine ops_y hH36 rfl rfl (yv_castB (not_decide_n rfl) (yv_neq rfl rfl)) ?_
        refine ops_y hH36 rfl rfl (yv_pick_f rfl rfl rfl) ?_
        refine ops_y hH36 rfl rfl (yv_move rfl) (guard_yes rfl rfl rfl (ops_y hH36 rfl rfl (yv_move rfl) (guard_yes rfl rfl rfl (ops_y hH36 rfl rfl (yv_move rfl) (guard_yes rfl rfl rfl ?_)))))
        refine ops_y hH36 rfl rfl (yv_castB (not_decide_n rfl) (yv_neq rfl rfl)) ?_
        refine ops_y hH36 rfl rfl (yv_pick_f rfl rfl rfl) ?_
        refine ops_y hH36 rfl rfl (yv_move rfl) (guard_yes rfl rfl rfl (ops_y hH36 rfl rfl (yv_move rfl) (guard_yes rfl rfl rfl (ops_y hH36 rfl rfl (yv_move rfl) (guard_yes rfl rfl rfl ?_)))))
        refine ops_y hH36 rfl rfl (yv_lss rfl rfl) ?_
        refine guard_yes rfl rfl rfl (ops_y hH36 rfl rfl (yv_move rfl) (guard_yes rfl rfl rfl (ops_y hH36 rfl rfl (yv_move rfl) (guard_yes rfl rfl rfl ?_))))
        refine op_fnV rfl rfl rfl hH36 (c51 (Heap.rdw T.el22_encI hH36 (n := 1) rfl) (Heap.rdw T.el22_encI hH36 (n := 0) rfl) (by omega) (by omega)) (fun w37 hH38 => ?_)
        refine guard_yes rfl rfl rfl ?_
        refine ops_y hH38 rfl rfl (yv_neqB Try.underlying4 (show decide ((i : Int) < (k : Int)) = decide (Q.cmpL (nth (Q.treesL n) (i : Int)) (nth (Q.treesL n) (k : Int)) < 0) from hbq) rfl rfl) ?_
        refine ops_y hH38 rfl rfl (yv_pick_f rfl rfl rfl) ?_
        refine ops_nil (thn_n ?_)
        refine cond_f rfl rfl ?_
        refine skip (thn_n (seq ?_))
        have hgs := Q.gr_size n n by_ (Nat.le_refl _)
        have hgl : (Q.T.dep 0 (Q.gr n by_)).length = n := by rw [Q.T.dep_length, hgs]
        have hgc := Q.ck_of_tree (t := Q.gr n by_) (by omega) (by omega)
        have hgu : Q.Up (Q.T.dep 0 (Q.gr n by_)) := fun x hx => by have := Q.T.dep_lt (Q.gr n by_) 0 x hx; omega
        have hN3 := Q.num_tree (t := Q.gr n by_) (by omega) (by omega)
        rw [hgs] at hN3
        obtain ⟨hp1, hp2⟩ := Q.nth_posT (t := Q.gr n by_)
        rw [hgs] at hp1 hp2
        have hA3 := Q.at_nth hn1.1 hn1.2 (k := (Q.posT (Q.treesL n) (Q.T.dep 0 (Q.gr n by_)))) (by omega)
        rw [hp2] at hA3
        refine region (ops_y hH38 rfl rfl (yv_move rfl) (ops_y hH38 rfl rfl (yv_move rfl) ?_))
        refine op_fn rfl rfl rfl hH38 (c46 (n := n) ((hby.now hH38 (n := 2) rfl)) hb5 (by omega) (by omega)) (fun u41 w39 lo42 hi43 hH40 hv44 => ?_)
        have hH45 := Heap.toOw hH40 (n := 0) rfl
        refine ops_y hH45 rfl rfl (yv_assign rfl) (ops_nil (thn_n (seq (region (ops_y hH45 rfl rfl (yv_move rfl) ?_)))))
        refine op_fnV rfl rfl rfl hH45 ((by have h := c37 (Heap.rdw T.el22_encI hH45 (n := 0) rfl) (by omega) hgu; simp only [hN3] at h; exact h)) (fun w46 hH47 => ?_)
        refine ops_y hH47 rfl rfl (yv_move rfl) (ops_y hH47 rfl rfl (yv_extract rfl rfl) (ops_y hH47 rfl rfl (yv_extract rfl rfl) (ops_y hH47 rfl rfl (yv_assign rfl) (ops_y hH47 rfl rfl (yv_assign rfl) (ops_nil (thn_n (seq (seq (region ?_)))))))))
        refine ops_y hH47 rfl rfl (yv_move rfl) ?_
        refine ops_y hH47 rfl rfl (yv_castB rfl (yv_neq rfl rfl)) ?_
        refine ops_nil (thn_n ?_)
        refine cond_f rfl rfl ?_
        refine skip (thn_n (seq (region (ops_y hH47 rfl rfl (yv_move rfl) (ops_y hH47 rfl rfl (yv_move rfl) ?_)))))
        refine op_fn rfl rfl rfl hH47 ((by have h := c39 (n := (n : Int)) (k := ((Q.posT (Q.treesL n) (Q.T.dep 0 (Q.gr n by_))) : Int)) (w := w46); simp only [hA3] at h; exact h)) (fun u50 w48 lo51 hi52 hH49 hv53 => ?_)
        obtain ⟨p55, hu, -⟩ := hv53
        subst hu
        have hH54 := Heap.tup2 hH49 (n := 0) rfl
        refine ops_y hH54 rfl rfl (yv_move rfl) (ops_y hH54 rfl rfl (yv_extract rfl rfl) (ops_y hH54 rfl rfl (yv_extract rfl rfl) (ops_y hH54 rfl rfl (yv_assign rfl) (ops_y hH54 rfl rfl (yv_assign rfl) (ops_nil (thn_n (seq (region (ops_y hH54 rfl rfl (yv_move rfl) ?_)))))))))
        refine ops_y hH54 rfl rfl (yv_castB rfl (yv_eql rfl rfl)) ?_
        refine ops_y hH54 rfl rfl (yv_move rfl) (guard_yes rfl rfl rfl (ops_y hH54 rfl rfl (yv_move rfl) (guard_yes rfl rfl rfl (ops_y hH54 rfl rfl (yv_move rfl) (guard_yes rfl rfl rfl ?_)))))
        refine op_fnV rfl rfl rfl hH54 (c21 (Heap.rdw T.el22_encI hH54 (n := 0) rfl) (Heap.rdw T.el22_encI hH54 (n := 1) rfl) (by omega) (by omega)) (fun w56 hH57 => ?_)
        refine ops_y hH57 rfl rfl (yv_pick_t rfl rfl rfl) ?_
        refine ops_y hH57 rfl rfl (yv_move rfl) ?_
        refine guard_yes rfl rfl (decide_eq_true rfl) ?_
        refine op_fnV rfl rfl rfl hH57 (c16) (fun w58 hH59 => ?_)
        refine ops_y hH59 rfl rfl (yv_pick_t rfl (decide_eq_true rfl) rfl) ?_
        refine ops_y hH59 rfl rfl (yv_assign rfl) (ops_nil (thn_n (ret ?_)))
        have hH60 := (hH59.sub (List.Sublist.cons _ (List.Sublist.cons _ (List.Sublist.cons _ (List.Sublist.cons _ (List.Sublist.refl _))))))
        refine fin hH60 (fun w' hf => (res1 rfl (show RV _ _ _ (.tmp 8) _ from rfl))) (fun w' hf => ?_)
        first | rfl | (exfalso; omega)
      · skip
        refine cond_t rfl (not_decide_t hc32) ?_
        refine seq (region (ops_y hH30 rfl rfl (yv_assign rfl) (ops_nil (thn_n (ret (thn_r ?_))))))
        have hH61 := (hH30.sub (List.Sublist.cons _ (List.Sublist.cons _ (List.Sublist.refl _))))
        refine fin hH61 (fun w' hf => (res1 rfl (show RV _ _ _ (.tmp 8) _ from rfl))) (fun w' hf => ?_)
        first | rfl | (exfalso; omega)
    · skip
      refine guard_no rfl rfl (not_decide_t hc31) rfl ?_
      refine guard_no rfl rfl (not_decide_t hc31) rfl ?_
      refine guard_no rfl rfl (not_decide_t hc31) rfl ?_
      refine guard_no rfl rfl (not_decide_t hc31) rfl ?_
      refine ops_y hH30 rfl rfl (yv_pick_t rfl (not_decide_t hc31) rfl) ?_
      refine ops_nil (thn_n ?_)
      refine cond_t rfl rfl ?_
      refine seq (region (ops_y hH30 rfl rfl (yv_assign rfl) (ops_nil (thn_n (ret (thn_r ?_))))))
      have hH62 := (hH30.sub (List.Sublist.cons _ (List.Sublist.cons _ (List.Sublist.refl _))))
      refine fin hH62 (fun w' hf => (res1 rfl (show RV _ _ _ (.tmp 8) _ from rfl))) (fun w' hf => ?_)
      first | rfl | (exfalso; omega)

end Go.Fip
