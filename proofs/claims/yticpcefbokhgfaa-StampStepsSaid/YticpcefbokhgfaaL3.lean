/- Walks, by program (wip/tools). -/
import Derived.Test.YticpcefbokhgfaaMJ
import Derived.Test.YticpcefbokhgfaaMI
set_option linter.unusedVariables false
set_option linter.unusedSimpArgs false
set_option linter.unusedSectionVars false
set_option linter.unnecessarySimpa false
namespace Go.Fip
open Go.Proofs Go.RowKit

theorem c9 {v vb : Value} {l bs : List Int} {w : World} (h0 : Rd encI 1 v l w) (hb : Rd encB 1 vb bs w) (hby : ∀ x ∈ bs, 0 ≤ x ∧ x ≤ 255)  :
    Fn Try.prog 9 [v, vb].toArray w (fun u _ => u = .bool true) := by
  refine fn_of' (args := [v, vb]) Try.func9 rfl (ent Try.func9 (by kernel_rfl) rfl) rfl rfl (fun hH => ?_)
  refine seq (region (ops_y hH rfl rfl (yv_assign rfl) (ops_nil (thn_n (seq (seq ?_))))))
  by_cases hc1 : S.J l
  · skip
    have hj : S.J l := ‹_›
    have hc0 : S.check l 0 = 0 := S.check_iff.2 hj
    have hl1 := hj.1
    have hl10 := hj.2.1
    obtain ⟨hsa, hsb, hsc⟩ := S.steps_all hj
    obtain ⟨hea, heb, hec⟩ := S.exs_all hj
    have hst := S.sp2 hc0
    have hwr := S.wr2 hc0
    have hex := S.ex2 hc0
    have hwl := S.wrongOf_length (l := l)
    have hi45 := hj.inv45
    have hic := hj.inv_cyc
    have hks := hsc.bd hl10
    have hsd : S.Stepped l (S.steps l) := ⟨hsc, hsb⟩
    refine region (ops_y hH rfl rfl (yv_move rfl) ?_)
    refine op_fnV rfl rfl rfl hH (c56 (h0.now hH (n := 0) rfl)) (fun w2 hH3 => ?_)
    refine ops_y hH3 rfl rfl (yv_castB (bnot_f (decide_eq_true hc1)) (yv_not rfl)) ?_
    refine ops_y hH3 rfl rfl (yv_move rfl) (guard_yes rfl rfl rfl (ops_y hH3 rfl rfl (yv_move rfl) (guard_yes rfl rfl rfl ?_)))
    refine ops_y hH3 rfl rfl (yv_len T.sl53 rfl ((hb.now hH3 (n := 0) rfl)).is) ?_
    refine guard_yes rfl rfl rfl ?_
    refine ops_y hH3 rfl rfl (yv_gtr rfl rfl) ?_
    refine ops_y hH3 rfl rfl (yv_pick_f rfl rfl rfl) ?_
    refine ops_nil (thn_n ?_)
    by_cases hc4 : 60 < (bs.length : Int)
    · skip
      refine cond_t rfl (decide_eq_true hc4) ?_
      refine seq (region ?_)
      refine op_fnV rfl rfl rfl hH3 (c18) (fun w5 hH6 => ?_)
      refine ops_y hH6 rfl rfl (yv_assign rfl) (ops_nil (thn_n (ret (thn_r ?_))))
      refine fin hH6 (fun w' hf => (res1 rfl (show RV _ _ _ (.tmp 4) _ from rfl))) (fun w' hf => ?_)
      rfl
    · skip
      refine cond_f rfl (decide_eq_false hc4) ?_
      refine skip (thn_n (seq (region (ops_y hH3 rfl rfl (yv_move rfl) ?_))))
      refine op_fn rfl rfl rfl hH3 ((by have h := c31 (h0.now hH3 (n := 0) rfl) (by omega); simp only [hst] at h; exact h)) (fun u9 w7 lo10 hi11 hH8 hv12 => ?_)
      obtain ⟨p14, hu, -⟩ := hv12
      subst hu
      have hH13 := Heap.tup2 hH8 (n := 0) rfl
      refine ops_y hH13 rfl rfl (yv_move rfl) (ops_y hH13 rfl rfl (yv_extract rfl rfl) (ops_y hH13 rfl rfl (yv_extract rfl rfl) (ops_y hH13 rfl rfl (yv_assign rfl) (ops_y hH13 rfl rfl (yv_assign rfl) (ops_nil (thn_n (seq (region (ops_y hH13 rfl rfl (yv_move rfl) ?_)))))))))
      refine op_fn rfl rfl rfl hH13 ((by have h := c21 (h0.now hH13 (n := 1) rfl) (by omega); simp only [hwr] at h; exact h)) (fun u17 w15 lo18 hi19 hH16 hv20 => ?_)
      obtain ⟨p22, hu, -⟩ := hv20
      subst hu
      have hH21 := Heap.tup2 hH16 (n := 0) rfl
      refine ops_y hH21 rfl rfl (yv_move rfl) (ops_y hH21 rfl rfl (yv_extract rfl rfl) (ops_y hH21 rfl rfl (yv_extract rfl rfl) (ops_y hH21 rfl rfl (yv_assign rfl) (ops_y hH21 rfl rfl (yv_assign rfl) (ops_nil (thn_n (seq (region (ops_y hH21 rfl rfl (yv_move rfl) ?_)))))))))
      refine op_fn rfl rfl rfl hH21 ((by have h := c29 (h0.now hH21 (n := 2) rfl) (by omega); simp only [hex] at h; exact h)) (fun u25 w23 lo26 hi27 hH24 hv28 => ?_)
      obtain ⟨p30, hu, -⟩ := hv28
      subst hu
      have hH29 := Heap.tup2 hH24 (n := 0) rfl
      refine ops_y hH29 rfl rfl (yv_move rfl) (ops_y hH29 rfl rfl (yv_extract rfl rfl) (ops_y hH29 rfl rfl (yv_extract rfl rfl) (ops_y hH29 rfl rfl (yv_assign rfl) (ops_y hH29 rfl rfl (yv_assign rfl) (ops_nil (thn_n (seq (seq (region ?_)))))))))
      refine ops_y hH29 rfl rfl (yv_move rfl) ?_
      refine ops_y hH29 rfl rfl (yv_castB rfl (yv_neq rfl rfl)) ?_
      refine ops_y hH29 rfl rfl (yv_move rfl) (guard_yes rfl rfl rfl (ops_y hH29 rfl rfl (yv_move rfl) (guard_yes rfl rfl rfl ?_)))
      refine ops_y hH29 rfl rfl (yv_castB rfl (yv_neq rfl rfl)) ?_
      refine ops_y hH29 rfl rfl (yv_pick_f rfl rfl rfl) ?_
      refine ops_y hH29 rfl rfl (yv_move rfl) (guard_yes rfl rfl rfl (ops_y hH29 rfl rfl (yv_move rfl) (guard_yes rfl rfl rfl ?_)))
      refine ops_y hH29 rfl rfl (yv_castB rfl (yv_neq rfl rfl)) ?_
      refine ops_y hH29 rfl rfl (yv_pick_f rfl rfl rfl) ?_
      refine ops_y hH29 rfl rfl (yv_move rfl) (guard_yes rfl rfl rfl (ops_y hH29 rfl rfl (yv_move rfl) (guard_yes rfl rfl rfl ?_)))
      refine ops_y hH29 rfl rfl (yv_len T.sl22 rfl (Heap.rdw T.el22_encI hH29 (n := 2) rfl).is) ?_
      refine guard_yes rfl rfl rfl (ops_y hH29 rfl rfl (yv_move rfl) (guard_yes rfl rfl rfl ?_))
      refine ops_y hH29 rfl rfl (yv_len T.sl29 rfl (Heap.rdw T.el29_encP hH29 (n := 1) rfl).is) ?_
      refine guard_yes rfl rfl rfl ?_
      refine ops_y hH29 rfl rfl (yv_neq rfl rfl) ?_
      refine ops_y hH29 rfl rfl (yv_pick_f rfl rfl rfl) ?_
      refine ops_y hH29 rfl rfl (yv_move rfl) ?_
      have hc31 : ¬ (¬ (((S.steps l).length : Int) = ((S.wrongOf l).length : Int))) := by omega
      refine guard_yes rfl rfl (not_decide_f hc31) ?_
      refine ops_y hH29 rfl rfl (yv_move rfl) ?_
      refine guard_yes rfl rfl (not_decide_f hc31) ?_
      refine ops_y hH29 rfl rfl (yv_len T.sl22 rfl (Heap.rdw T.el22_encI hH29 (n := 2) rfl).is) ?_
      refine guard_yes rfl rfl (not_decide_f hc31) ?_
      refine ops_y hH29 rfl rfl (yv_gtr rfl rfl) ?_
      refine ops_y hH29 rfl rfl (yv_pick_f rfl (not_decide_f hc31) rfl) ?_
      refine ops_y hH29 rfl rfl (yv_move rfl) ?_
      have hc32 : ¬ (45 < ((S.steps l).length : Int)) := by omega
      refine guard_yes rfl rfl (decide_eq_false hc32) ?_
      refine ops_y hH29 rfl rfl (yv_move rfl) ?_
      refine guard_yes rfl rfl (decide_eq_false hc32) ?_
      refine ops_y hH29 rfl rfl (yv_len T.sl29 rfl (Heap.rdw T.el29_encP hH29 (n := 0) rfl).is) ?_
      refine guard_yes rfl rfl (decide_eq_false hc32) ?_
      refine ops_y hH29 rfl rfl (yv_move rfl) ?_
      refine guard_yes rfl rfl (decide_eq_false hc32) ?_
      refine ops_y hH29 rfl rfl (yv_len T.sl22 rfl (Heap.rdw T.el22_encI hH29 (n := 2) rfl).is) ?_
      refine guard_yes rfl rfl (decide_eq_false hc32) ?_
      refine ops_y hH29 rfl rfl (yv_gtr rfl rfl) ?_
      refine ops_y hH29 rfl rfl (yv_pick_f rfl (decide_eq_false hc32) rfl) ?_
      refine ops_y hH29 rfl rfl (yv_move rfl) ?_
      have hc33 : ¬ (((S.steps l).length : Int) < ((S.exs l).length : Int)) := by omega
      refine guard_yes rfl rfl (decide_eq_false hc33) ?_
      refine ops_y hH29 rfl rfl (yv_move rfl) ?_
      refine guard_yes rfl rfl (decide_eq_false hc33) ?_
      refine ops_y hH29 rfl rfl (yv_len T.sl22 rfl (Heap.rdw T.el22_encI hH29 (n := 2) rfl).is) ?_
      refine guard_yes rfl rfl (decide_eq_false hc33) ?_
      refine ops_y hH29 rfl rfl (yv_move rfl) ?_
      refine guard_yes rfl rfl (decide_eq_false hc33) ?_
      refine ops_y hH29 rfl rfl (yv_len T.sl29 rfl (Heap.rdw T.el29_encP hH29 (n := 0) rfl).is) ?_
      refine guard_yes rfl rfl (decide_eq_false hc33) ?_
      refine ops_y hH29 rfl rfl (yv_sub rfl rfl (by omega)) ?_
      refine guard_yes rfl rfl (decide_eq_false hc33) ?_
      refine ops_y hH29 rfl rfl (yv_rem rfl rfl (by omega) (by omega)) ?_
      refine guard_yes rfl rfl (decide_eq_false hc33) ?_
      refine ops_y hH29 rfl rfl (yv_neq rfl rfl) ?_
      refine ops_y hH29 rfl rfl (yv_pick_f rfl (decide_eq_false hc33) rfl) ?_
      refine ops_y hH29 rfl rfl (yv_move rfl) ?_
      have hc34 : ¬ (¬ (((((S.steps l).length : Int) - ((S.exs l).length : Int)) % 2) = 0)) := by omega
      refine guard_yes rfl rfl (not_decide_f hc34) ?_
      refine ops_y hH29 rfl rfl (yv_move rfl) ?_
      refine guard_yes rfl rfl (not_decide_f hc34) ?_
      refine ops_y hH29 rfl rfl (yv_move rfl) ?_
      refine guard_yes rfl rfl (not_decide_f hc34) ?_
      refine op_fnV rfl rfl rfl hH29 (c59 (h0.now hH29 (n := 3) rfl) (Heap.rdw T.el22_encI hH29 (n := 2) rfl) (by omega) (by omega) hks) (fun w35 hH36 => ?_)
      refine guard_yes rfl rfl (not_decide_f hc34) ?_
      refine ops_y hH36 rfl rfl (yv_not rfl) ?_
      refine ops_y hH36 rfl rfl (yv_pick_f rfl (not_decide_f hc34) rfl) ?_
      refine ops_nil (thn_n ?_)
      have hc37 : ¬ (¬ (S.Stepped l (S.steps l))) := fun h => h hsd
      refine cond_f rfl (not_decide_f hc37) ?_
      refine skip (thn_n (seq (region (ops_y hH36 rfl rfl (yv_move rfl) ?_))))
      refine op_fn rfl rfl rfl hH36 (c60 (h0.now hH36 (n := 3) rfl) (by omega)) (fun u40 w38 lo41 hi42 hH39 hv43 => ?_)
      have hH44 := Heap.toOw hH39 (n := 0) rfl
      refine ops_y hH44 rfl rfl (yv_assign rfl) (ops_nil (thn_n (seq (region (ops_y hH44 rfl rfl (yv_assign rfl) (ops_nil (thn_n (seq (seq ?_)))))))))
      refine region (ops_y hH44 rfl rfl (yv_assign rfl) (ops_nil (thn_n (block ?_))))
      refine loop (S := Nat × Value × Nat × Nat) (fun (j, v_11, lo_11, hi_11) => [(12, (.int .i64 (j : Int))), (13, (.int .i64 (j : Int))), (11, v_11), (1, vb), (4, (.bool false)), (5, p14)]) (fun (j, v_11, lo_11, hi_11) w1 => Heap [ow lo_11 hi_11 3 1 encI v_11 (S.stp l (S.ksTo (l.length : Int) bs j)), ow lo26 hi27 70 2 encP p30 (S.exs l), ow lo18 hi19 70 2 encP p22 (S.wrongOf l), ow lo10 hi11 3 1 encI p14 (S.steps l), base w] w1 ∧ j ≤ bs.length ∧ (1 < l.length ∨ j = 0)) (fun (j, v_11, lo_11, hi_11) => bs.length - j) (0, u40, lo41, hi42) (Sub.cons rfl (Sub.cons rfl (Sub.cons rfl (Sub.cons rfl (Sub.cons rfl (Sub.cons rfl (Sub.nil _))))))) ?_ ?_
      · exact ⟨(Heap.recast (n := 0) hH44 rfl (rfl)), by omega, .inr rfl⟩
      · rintro ⟨j, v_11, lo_11, hi_11⟩ w45 ⟨hH46, hjb, hj1⟩
        show Holds _ _ _ _ _ [(12, (.int .i64 (j : Int))), (13, (.int .i64 (j : Int))), (11, v_11), (1, vb), (4, (.bool false)), (5, p14)] _ _
        have hsl : (S.stp l (S.ksTo (l.length : Int) bs j)).length = l.length := S.stp_length
        refine seq (seq (region (ops_y hH46 rfl rfl (yv_move rfl) (ops_y hH46 rfl rfl (yv_move rfl) ?_))))
        refine ops_y hH46 rfl rfl (yv_len T.sl53 rfl ((hb.now hH46 (n := 4) rfl)).is) ?_
        refine ops_y hH46 rfl rfl (yv_lss rfl rfl) ?_
        refine ops_y hH46 rfl rfl (yv_move rfl) ?_
        by_cases hc47 : (j : Int) < (bs.length : Int)
        · skip
          refine guard_yes rfl rfl (decide_eq_true hc47) ?_
          refine ops_y hH46 rfl rfl (yv_move rfl) ?_
          refine guard_yes rfl rfl (decide_eq_true hc47) ?_
          refine ops_y hH46 rfl rfl (yv_len T.sl22 rfl (Heap.rdw T.el22_encI hH46 (n := 0) rfl).is) ?_
          refine guard_yes rfl rfl (decide_eq_true hc47) ?_
          refine ops_y hH46 rfl rfl (yv_gtr rfl rfl) ?_
          refine ops_y hH46 rfl rfl (yv_pick_t rfl (decide_eq_true hc47) rfl) ?_
          refine ops_nil (thn_n ?_)
          by_cases hc48 : 1 < ((S.stp l (S.ksTo (l.length : Int) bs j)).length : Int)
          · skip
            refine cond_t rfl (decide_eq_true hc48) ?_
            refine skip (thn_n (seq (block (seq ?_))))
            have hu8 := u8_at hby (i := (j : Int)) (by omega) (by omega)
            have hmo := emod_bd (a := nth bs (j : Int)) (b := (l.length : Int) - 1) (by omega)
            have hlk : (S.stp l (S.ksTo (l.length : Int) bs j)).length = l.length := S.stp_length
            have hmo2 := emod_bd (a := nth bs (j : Int)) (b := ((S.stp l (S.ksTo (l.length : Int) bs j)).length : Int) - 1) (by omega)
            have hsl2 : ((S.stp l (S.ksTo (l.length : Int) bs j)).set (nth bs (j : Int) % (((S.stp l (S.ksTo (l.length : Int) bs j)).length : Int) - 1)).toNat (nth (S.stp l (S.ksTo (l.length : Int) bs j)) (nth bs (j : Int) % (((S.stp l (S.ksTo (l.length : Int) bs j)).length : Int) - 1) + 1))).length = l.length := (List.length_set).trans hsl
            refine region (ops_y hH46 rfl rfl (yv_move rfl) (ops_y hH46 rfl rfl (yv_move rfl) ?_))
            refine ops_y hH46 rfl rfl (yv_index T.sl53 rfl rfl ((hb.now hH46 (n := 4) rfl)).is (by omega)) ?_
            refine ops_y hH46 rfl rfl (yv_load T.one5 rfl (fun _ hw => Rd.at ((hb.now hw (n := 4) rfl)) (i := (j : Int)) (by omega) (j := 0) rfl)) ?_
            refine ops_y hH46 rfl rfl (yv_conv Try.underlying5 Try.underlying3 rfl (wrap_i64 (by omega))) ?_
            refine ops_y hH46 rfl rfl (yv_move rfl) ?_
            refine ops_y hH46 rfl rfl (yv_len T.sl22 rfl (Heap.rdw T.el22_encI hH46 (n := 0) rfl).is) ?_
            refine ops_y hH46 rfl rfl (yv_sub rfl rfl (by omega)) ?_
            refine ops_y hH46 rfl rfl (yv_rem rfl rfl (by omega) (by omega)) ?_
            refine ops_y hH46 rfl rfl (yv_assign rfl) (ops_nil (thn_n (seq ?_)))
            refine region_drawY (fun w' => Heap [ow lo_11 hi_11 3 1 encI v_11 (S.stp l (S.ksTo (l.length : Int) bs j)), ow lo26 hi27 70 2 encP p30 (S.exs l), ow lo18 hi19 70 2 encP p22 (S.wrongOf l), ow lo10 hi11 3 1 encI p14 (S.steps l), base w] w') [15, 17] T.mixed (fun w49 hr50 => ?_)
            have hH51 := hH46.redrawn hr50
            refine any_takesT [0, 1, 2, 3, 4, 5, 6, 7, 8, 10, 11, 12] (by kernel_rfl)  _ _ _ (by kernel_rfl) ?_
            refine qs_y rfl rfl (yv_move rfl) (qs_y rfl rfl (yv_move rfl) (qs_y rfl rfl (yv_move rfl) (qs_y rfl rfl (yv_move rfl) ?_)))
            refine qs_y rfl rfl (yv_add rfl rfl (by omega)) ?_
            refine qs_y rfl rfl (yv_move rfl) (qs_y rfl rfl (yv_move rfl) ?_)
            refine qs_y rfl rfl (yv_add rfl rfl (by omega)) ?_
            refine qs_y rfl rfl (yv_index T.sl22 rfl rfl (Heap.rdw T.el22_encI hH51 (n := 0) rfl).is (by omega)) ?_
            refine qs_y rfl rfl (yv_move rfl) (qs_y rfl rfl (yv_move rfl) ?_)
            refine qs_y rfl rfl (yv_index T.sl22 rfl rfl (Heap.rdw T.el22_encI hH51 (n := 0) rfl).is (by omega)) ?_
            refine qs_nil ?_
            refine any_takesY [9, 13] (by kernel_rfl) hH51 _ _ _ (by kernel_rfl) ?_
            refine qs_y rfl rfl (yv_load T.one3 rfl (fun _ hw => Rd.at (Heap.rdw T.el22_encI hw (n := 0) rfl) (i := ((nth bs (j : Int)) % (((S.stp l (S.ksTo (l.length : Int) bs j)).length : Int) - 1)) + 1) (by omega) (j := 0) rfl)) ?_
            refine qs_y rfl rfl (yv_load T.one3 rfl (fun _ hw => Rd.at (Heap.rdw T.el22_encI hw (n := 0) rfl) (i := (nth bs (j : Int)) % (((S.stp l (S.ksTo (l.length : Int) bs j)).length : Int) - 1)) (by omega) (j := 0) rfl)) ?_
            refine qs_nil ?_
            refine any_takesT [14] (by kernel_rfl)  _ _ _ (by kernel_rfl) ?_
            refine qs_y rfl rfl (yv_index T.sl22 rfl rfl (Heap.rdw T.el22_encI hH51 (n := 0) rfl).is (by omega)) ?_
            refine qs_nil ?_
            refine any_allY [15] (by kernel_rfl) rfl ?_
            refine ⟨⟨_, rfl, ?_⟩, trivial⟩
            · skip
              refine op_setE (n := 0) (i := (nth bs (j : Int)) % (((S.stp l (S.ksTo (l.length : Int) bs j)).length : Int) - 1)) (k := 0) (us := [(.int .i64 (nth (S.stp l (S.ksTo (l.length : Int) bs j)) (((nth bs (j : Int)) % (((S.stp l (S.ksTo (l.length : Int) bs j)).length : Int) - 1)) + 1)))]) (z := nth (S.stp l (S.ksTo (l.length : Int) bs j)) (((nth bs (j : Int)) % (((S.stp l (S.ksTo (l.length : Int) bs j)).length : Int) - 1)) + 1)) T.el22_encI rfl rfl hH51 rfl (by omega) T.sz3 rfl rfl rfl (Nat.le_of_ble_eq_true rfl) (fun w52 hH53 => ?_)
              refine ops_nil ?_
              refine ⟨(fun h => by cases h), ?_⟩
              refine any_takesT [16] (by kernel_rfl)  _ _ _ (by kernel_rfl) ?_
              refine qs_y rfl rfl (yv_index T.sl22 rfl rfl (Heap.rdw T.el22_encI hH53 (n := 0) rfl).is (by omega)) ?_
              refine qs_nil ?_
              refine any_allY [17] (by kernel_rfl) rfl ?_
              refine ⟨⟨_, rfl, ?_⟩, trivial⟩
              · skip
                refine op_setE (n := 0) (i := ((nth bs (j : Int)) % (((S.stp l (S.ksTo (l.length : Int) bs j)).length : Int) - 1)) + 1) (k := 0) (us := [(.int .i64 (nth (S.stp l (S.ksTo (l.length : Int) bs j)) ((nth bs (j : Int)) % (((S.stp l (S.ksTo (l.length : Int) bs j)).length : Int) - 1))))]) (z := nth (S.stp l (S.ksTo (l.length : Int) bs j)) ((nth bs (j : Int)) % (((S.stp l (S.ksTo (l.length : Int) bs j)).length : Int) - 1))) T.el22_encI rfl rfl hH53 rfl (by omega) T.sz3 rfl rfl rfl (Nat.le_of_ble_eq_true rfl) (fun w54 hH55 => ?_)
                refine ops_nil ?_
                refine ⟨(fun h => by cases h), ?_⟩
                refine any_doneY (by kernel_rfl) ?_
                refine thn_n (region (ops_y hH55 rfl rfl (yv_move rfl) ?_))
                refine ops_y hH55 rfl rfl (yv_add rfl rfl (by omega)) ?_
                refine ops_y hH55 rfl rfl (yv_assign rfl) (ops_nil (blk_n (thn_n (region (ops_y hH55 rfl rfl (yv_move rfl) ?_)))))
                refine ops_y hH55 rfl rfl (yv_add rfl rfl (by omega)) ?_
                refine ops_y hH55 rfl rfl (yv_assign rfl) (ops_nil ?_)
                refine lp_n (j + 1, v_11, lo_11, hi_11) (Sub.cons rfl (Sub.cons rfl (Sub.cons rfl (Sub.cons rfl (Sub.cons rfl (Sub.cons rfl (Sub.nil _))))))) ?_ ?_
                · exact ⟨(Heap.recast (n := 0) hH55 rfl (by rw [S.ksTo_succ, S.stp_snoc, hlk]; rfl)), by omega, .inl (by omega)⟩
                · first | (dsimp only; omega) | (show _ < _; omega)
          · skip
            refine cond_f rfl (decide_eq_false hc48) ?_
            refine exit (thn_x (lp_x (blk_here (thn_n (seq ?_)))))
            have hka := S.ksTo_ok (n := l.length) (bs := bs) (j := j) hj1
            have hkl := S.ksTo_len (n := (l.length : Int)) (bs := bs) (j := j)
            obtain ⟨hJ2, -, hin, hpa⟩ := hj.stp hka
            have hst2 := S.sp2 (S.check_iff.2 hJ2)
            obtain ⟨hs2a, hs2b, hs2c⟩ := S.steps_all hJ2
            rw [hsl] at hs2b hs2c
            have hJ45 := hJ2.inv45
            have hsd2 : S.Stepped (S.stp l (S.ksTo (l.length : Int) bs j)) (S.steps (S.stp l (S.ksTo (l.length : Int) bs j))) := ⟨by rw [hsl]; exact hs2c, by rw [hsl]; exact hs2b⟩
            have hks2 := hs2c.bd hl10
            refine region (ops_y hH46 rfl rfl (yv_move rfl) ?_)
            refine op_fn rfl rfl rfl hH46 ((by have h := c31 (Heap.rdw T.el22_encI hH46 (n := 0) rfl) (by omega); simp only [hst2] at h; exact h)) (fun u58 w56 lo59 hi60 hH57 hv61 => ?_)
            obtain ⟨p63, hu, -⟩ := hv61
            subst hu
            have hH62 := Heap.tup2 hH57 (n := 0) rfl
            refine ops_y hH62 rfl rfl (yv_move rfl) (ops_y hH62 rfl rfl (yv_extract rfl rfl) (ops_y hH62 rfl rfl (yv_extract rfl rfl) (ops_y hH62 rfl rfl (yv_assign rfl) (ops_y hH62 rfl rfl (yv_assign rfl) (ops_nil (thn_n (seq (region (ops_y hH62 rfl rfl (yv_move rfl) ?_)))))))))
            refine ops_y hH62 rfl rfl (yv_castB rfl (yv_eql rfl rfl)) ?_
            refine ops_y hH62 rfl rfl (yv_move rfl) (guard_yes rfl rfl rfl (ops_y hH62 rfl rfl (yv_move rfl) (guard_yes rfl rfl rfl ?_)))
            refine ops_y hH62 rfl rfl (yv_len T.sl22 rfl (Heap.rdw T.el22_encI hH62 (n := 0) rfl).is) ?_
            refine guard_yes rfl rfl rfl (ops_y hH62 rfl rfl (yv_move rfl) (guard_yes rfl rfl rfl ?_))
            refine ops_y hH62 rfl rfl (yv_add rfl rfl (by omega)) ?_
            refine guard_yes rfl rfl rfl (ops_y hH62 rfl rfl (yv_move rfl) (guard_yes rfl rfl rfl ?_))
            refine ops_y hH62 rfl rfl (yv_len T.sl22 rfl (Heap.rdw T.el22_encI hH62 (n := 4) rfl).is) ?_
            refine guard_yes rfl rfl rfl ?_
            refine ops_y hH62 rfl rfl (yv_geq rfl rfl) ?_
            refine ops_y hH62 rfl rfl (yv_pick_t rfl rfl rfl) ?_
            refine ops_y hH62 rfl rfl (yv_move rfl) ?_
            have hc64 : ((S.steps l).length : Int) ≤ (((S.steps (S.stp l (S.ksTo (l.length : Int) bs j))).length : Int) + (j : Int)) := by omega
            refine guard_yes rfl rfl (decide_eq_true hc64) ?_
            refine ops_y hH62 rfl rfl (yv_move rfl) ?_
            refine guard_yes rfl rfl (decide_eq_true hc64) ?_
            refine ops_y hH62 rfl rfl (yv_len T.sl22 rfl (Heap.rdw T.el22_encI hH62 (n := 0) rfl).is) ?_
            refine guard_yes rfl rfl (decide_eq_true hc64) ?_
            refine ops_y hH62 rfl rfl (yv_move rfl) ?_
            refine guard_yes rfl rfl (decide_eq_true hc64) ?_
            refine ops_y hH62 rfl rfl (yv_add rfl rfl (by omega)) ?_
            refine guard_yes rfl rfl (decide_eq_true hc64) ?_
            refine ops_y hH62 rfl rfl (yv_move rfl) ?_
            refine guard_yes rfl rfl (decide_eq_true hc64) ?_
            refine ops_y hH62 rfl rfl (yv_len T.sl22 rfl (Heap.rdw T.el22_encI hH62 (n := 4) rfl).is) ?_
            refine guard_yes rfl rfl (decide_eq_true hc64) ?_
            refine ops_y hH62 rfl rfl (yv_sub rfl rfl (by omega)) ?_
            refine guard_yes rfl rfl (decide_eq_true hc64) ?_
            refine ops_y hH62 rfl rfl (yv_rem rfl rfl (by omega) (by omega)) ?_
            refine guard_yes rfl rfl (decide_eq_true hc64) ?_
            refine ops_y hH62 rfl rfl (yv_eql rfl rfl) ?_
            refine ops_y hH62 rfl rfl (yv_pick_t rfl (decide_eq_true hc64) rfl) ?_
            refine ops_y hH62 rfl rfl (yv_move rfl) ?_
            have hc65 : (((((S.steps (S.stp l (S.ksTo (l.length : Int) bs j))).length : Int) + (j : Int)) - ((S.steps l).length : Int)) % 2) = 0 := by omega
            refine guard_yes rfl rfl (decide_eq_true hc65) ?_
            refine ops_y hH62 rfl rfl (yv_move rfl) ?_
            refine guard_yes rfl rfl (decide_eq_true hc65) ?_
            refine ops_y hH62 rfl rfl (yv_move rfl) ?_
            refine guard_yes rfl rfl (decide_eq_true hc65) ?_
            refine op_fnV rfl rfl rfl hH62 (c59 (Heap.rdw T.el22_encI hH62 (n := 1) rfl) (Heap.rdw T.el22_encI hH62 (n := 0) rfl) (by omega) (by omega) hks2) (fun w66 hH67 => ?_)
            refine ops_y hH67 rfl rfl (yv_pick_t rfl (decide_eq_true hc65) rfl) ?_
            refine ops_y hH67 rfl rfl (yv_move rfl) ?_
            have hc68 : S.Stepped (S.stp l (S.ksTo (l.length : Int) bs j)) (S.steps (S.stp l (S.ksTo (l.length : Int) bs j))) := hsd2
            refine guard_yes rfl rfl (decide_eq_true hc68) ?_
            refine op_fnV rfl rfl rfl hH67 (c18) (fun w69 hH70 => ?_)
            refine ops_y hH70 rfl rfl (yv_pick_t rfl (decide_eq_true hc68) rfl) ?_
            refine ops_y hH70 rfl rfl (yv_assign rfl) (ops_nil (thn_n (ret ?_)))
            have hH71 := (hH70.sub (List.Sublist.cons _ (List.Sublist.cons _ (List.Sublist.cons _ (List.Sublist.cons _ (List.Sublist.cons _ (List.Sublist.refl _)))))))
            refine fin hH71 (fun w' hf => (res1 rfl (show RV _ _ _ (.tmp 4) _ from rfl))) (fun w' hf => ?_)
            rfl
        · skip
          refine guard_no rfl rfl (decide_eq_false hc47) rfl ?_
          refine guard_no rfl rfl (decide_eq_false hc47) rfl ?_
          refine guard_no rfl rfl (decide_eq_false hc47) rfl ?_
          refine ops_y hH46 rfl rfl (yv_pick_f rfl (decide_eq_false hc47) rfl) ?_
          refine ops_nil (thn_n ?_)
          refine cond_f rfl rfl ?_
          refine exit (thn_x (lp_x (blk_here (thn_n (seq ?_)))))
          have hka := S.ksTo_ok (n := l.length) (bs := bs) (j := j) hj1
          have hkl := S.ksTo_len (n := (l.length : Int)) (bs := bs) (j := j)
          obtain ⟨hJ2, -, hin, hpa⟩ := hj.stp hka
          have hst2 := S.sp2 (S.check_iff.2 hJ2)
          obtain ⟨hs2a, hs2b, hs2c⟩ := S.steps_all hJ2
          rw [hsl] at hs2b hs2c
          have hJ45 := hJ2.inv45
          have hsd2 : S.Stepped (S.stp l (S.ksTo (l.length : Int) bs j)) (S.steps (S.stp l (S.ksTo (l.length : Int) bs j))) := ⟨by rw [hsl]; exact hs2c, by rw [hsl]; exact hs2b⟩
          have hks2 := hs2c.bd hl10
          refine region (ops_y hH46 rfl rfl (yv_move rfl) ?_)
          refine op_fn rfl rfl rfl hH46 ((by have h := c31 (Heap.rdw T.el22_encI hH46 (n := 0) rfl) (by omega); simp only [hst2] at h; exact h)) (fun u74 w72 lo75 hi76 hH73 hv77 => ?_)
          obtain ⟨p79, hu, -⟩ := hv77
          subst hu
          have hH78 := Heap.tup2 hH73 (n := 0) rfl
          refine ops_y hH78 rfl rfl (yv_move rfl) (ops_y hH78 rfl rfl (yv_extract rfl rfl) (ops_y hH78 rfl rfl (yv_extract rfl rfl) (ops_y hH78 rfl rfl (yv_assign rfl) (ops_y hH78 rfl rfl (yv_assign rfl) (ops_nil (thn_n (seq (region (ops_y hH78 rfl rfl (yv_move rfl) ?_)))))))))
          refine ops_y hH78 rfl rfl (yv_castB rfl (yv_eql rfl rfl)) ?_
          refine ops_y hH78 rfl rfl (yv_move rfl) (guard_yes rfl rfl rfl (ops_y hH78 rfl rfl (yv_move rfl) (guard_yes rfl rfl rfl ?_)))
          refine ops_y hH78 rfl rfl (yv_len T.sl22 rfl (Heap.rdw T.el22_encI hH78 (n := 0) rfl).is) ?_
          refine guard_yes rfl rfl rfl (ops_y hH78 rfl rfl (yv_move rfl) (guard_yes rfl rfl rfl ?_))
          refine ops_y hH78 rfl rfl (yv_add rfl rfl (by omega)) ?_
          refine guard_yes rfl rfl rfl (ops_y hH78 rfl rfl (yv_move rfl) (guard_yes rfl rfl rfl ?_))
          refine ops_y hH78 rfl rfl (yv_len T.sl22 rfl (Heap.rdw T.el22_encI hH78 (n := 4) rfl).is) ?_
          refine guard_yes rfl rfl rfl ?_
          refine ops_y hH78 rfl rfl (yv_geq rfl rfl) ?_
          refine ops_y hH78 rfl rfl (yv_pick_t rfl rfl rfl) ?_
          refine ops_y hH78 rfl rfl (yv_move rfl) ?_
          have hc80 : ((S.steps l).length : Int) ≤ (((S.steps (S.stp l (S.ksTo (l.length : Int) bs j))).length : Int) + (j : Int)) := by omega
          refine guard_yes rfl rfl (decide_eq_true hc80) ?_
          refine ops_y hH78 rfl rfl (yv_move rfl) ?_
          refine guard_yes rfl rfl (decide_eq_true hc80) ?_
          refine ops_y hH78 rfl rfl (yv_len T.sl22 rfl (Heap.rdw T.el22_encI hH78 (n := 0) rfl).is) ?_
          refine guard_yes rfl rfl (decide_eq_true hc80) ?_
          refine ops_y hH78 rfl rfl (yv_move rfl) ?_
          refine guard_yes rfl rfl (decide_eq_true hc80) ?_
          refine ops_y hH78 rfl rfl (yv_add rfl rfl (by omega)) ?_
          refine guard_yes rfl rfl (decide_eq_true hc80) ?_
          refine ops_y hH78 rfl rfl (yv_move rfl) ?_
          refine guard_yes rfl rfl (decide_eq_true hc80) ?_
          refine ops_y hH78 rfl rfl (yv_len T.sl22 rfl (Heap.rdw T.el22_encI hH78 (n := 4) rfl).is) ?_
          refine guard_yes rfl rfl (decide_eq_true hc80) ?_
          refine ops_y hH78 rfl rfl (yv_sub rfl rfl (by omega)) ?_
          refine guard_yes rfl rfl (decide_eq_true hc80) ?_
          refine ops_y hH78 rfl rfl (yv_rem rfl rfl (by omega) (by omega)) ?_
          refine guard_yes rfl rfl (decide_eq_true hc80) ?_
          refine ops_y hH78 rfl rfl (yv_eql rfl rfl) ?_
          refine ops_y hH78 rfl rfl (yv_pick_t rfl (decide_eq_true hc80) rfl) ?_
          refine ops_y hH78 rfl rfl (yv_move rfl) ?_
          have hc81 : (((((S.steps (S.stp l (S.ksTo (l.length : Int) bs j))).length : Int) + (j : Int)) - ((S.steps l).length : Int)) % 2) = 0 := by omega
          refine guard_yes rfl rfl (decide_eq_true hc81) ?_
          refine ops_y hH78 rfl rfl (yv_move rfl) ?_
          refine guard_yes rfl rfl (decide_eq_true hc81) ?_
          refine ops_y hH78 rfl rfl (yv_move rfl) ?_
          refine guard_yes rfl rfl (decide_eq_true hc81) ?_
          refine op_fnV rfl rfl rfl hH78 (c59 (Heap.rdw T.el22_encI hH78 (n := 1) rfl) (Heap.rdw T.el22_encI hH78 (n := 0) rfl) (by omega) (by omega) hks2) (fun w82 hH83 => ?_)
          refine ops_y hH83 rfl rfl (yv_pick_t rfl (decide_eq_true hc81) rfl) ?_
          refine ops_y hH83 rfl rfl (yv_move rfl) ?_
          have hc84 : S.Stepped (S.stp l (S.ksTo (l.length : Int) bs j)) (S.steps (S.stp l (S.ksTo (l.length : Int) bs j))) := hsd2
          refine guard_yes rfl rfl (decide_eq_true hc84) ?_
          refine op_fnV rfl rfl rfl hH83 (c18) (fun w85 hH86 => ?_)
          refine ops_y hH86 rfl rfl (yv_pick_t rfl (decide_eq_true hc84) rfl) ?_
          refine ops_y hH86 rfl rfl (yv_assign rfl) (ops_nil (thn_n (ret ?_)))
          have hH87 := (hH86.sub (List.Sublist.cons _ (List.Sublist.cons _ (List.Sublist.cons _ (List.Sublist.cons _ (List.Sublist.cons _ (List.Sublist.refl _)))))))
          refine fin hH87 (fun w' hf => (res1 rfl (show RV _ _ _ (.tmp 4) _ from rfl))) (fun w' hf => ?_)
          rfl
  · skip
    have hnj : ¬ S.J l := ‹_›
    refine region (ops_y hH rfl rfl (yv_move rfl) ?_)
    refine op_fnV rfl rfl rfl hH (c56 (h0.now hH (n := 0) rfl)) (fun w88 hH89 => ?_)
    refine ops_y hH89 rfl rfl (yv_castB (bnot_t (decide_eq_false hc1)) (yv_not rfl)) ?_
    refine ops_y hH89 rfl rfl (yv_move rfl) (guard_no rfl rfl rfl rfl (guard_no rfl rfl rfl rfl (guard_no rfl rfl rfl rfl ?_)))
    refine ops_y hH89 rfl rfl (yv_pick_t rfl rfl rfl) ?_
    refine ops_nil (thn_n ?_)
    refine cond_t rfl rfl ?_
    refine seq (region ?_)
    refine op_fnV rfl rfl rfl hH89 (c18) (fun w90 hH91 => ?_)
    refine ops_y hH91 rfl rfl (yv_assign rfl) (ops_nil (thn_n (ret (thn_r ?_))))
    refine fin hH91 (fun w' hf => (res1 rfl (show RV _ _ _ (.tmp 4) _ from rfl))) (fun w' hf => ?_)
    rfl

end Go.Fip
