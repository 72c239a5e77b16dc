/- Walks, by program (wip/tools). -/
import Derived.Test.YticpcefbokhgfaaMJ
import Derived.Test.YticpcefbokhgfaaMN
set_option linter.unusedVariables false
set_option linter.unusedSimpArgs false
set_option linter.unusedSectionVars false
set_option linter.unnecessarySimpa false
namespace Go.Fip
open Go.Proofs Go.RowKit

theorem c15 {v : Value} {l : List Int} {w : World} (h0 : Rd encI 1 v l w)  :
    Fn Try.prog 15 [v].toArray w (fun u _ => u = .bool true) := by
  refine fn_of' (args := [v]) Try.func15 rfl (ent Try.func15 (by kernel_rfl) rfl) rfl rfl (fun hH => ?_)
  refine seq (region (ops_y hH rfl rfl (yv_assign rfl) (ops_nil (thn_n (seq (seq ?_))))))
  by_cases hc1 : S.Rg l
  · skip
    have hk : S.Rg l := ‹_›
    have hcr : S.check l (-1) = 0 := S.check_iff.2 hk
    have hl1 := hk.1
    have hl10 := hk.2.1
    have hbe := S.br2 hcr
    have hsr := S.sr2 hcr
    have hbl := S.best_length (k := l)
    have hbJ := S.best_J hk
    have hbf := S.best_fits (k := l)
    refine region (ops_y hH rfl rfl (yv_move rfl) ?_)
    refine op_fnV rfl rfl rfl hH (c17 (h0.now hH (n := 0) rfl)) (fun w2 hH3 => ?_)
    refine ops_y hH3 rfl rfl (yv_move rfl) ?_
    have hc4 : ¬ (16 < (l.length : Int)) := by omega
    refine guard_yes rfl rfl (decide_eq_false hc4) ?_
    refine ops_y hH3 rfl rfl (yv_move rfl) ?_
    refine guard_yes rfl rfl (decide_eq_false hc4) ?_
    refine op_fnV rfl rfl rfl hH3 (c55 (h0.now hH3 (n := 0) rfl) (by omega)) (fun w5 hH6 => ?_)
    refine guard_yes rfl rfl (decide_eq_false hc4) ?_
    refine ops_y hH6 rfl rfl (yv_neq rfl rfl) ?_
    refine ops_y hH6 rfl rfl (yv_pick_f rfl (decide_eq_false hc4) rfl) ?_
    refine ops_nil (thn_n ?_)
    have hc7 : ¬ (¬ ((S.check l (-1)) = 0)) := fun h => h hcr
    refine cond_f rfl (not_decide_f hc7) ?_
    refine skip (thn_n (seq (region (ops_y hH6 rfl rfl (yv_move rfl) ?_))))
    refine op_fnV rfl rfl rfl hH6 ((by have h := c50 (h0.now hH6 (n := 0) rfl) (by omega); simp only [hsr] at h; exact h)) (fun w8 hH9 => ?_)
    refine ops_y hH9 rfl rfl (yv_move rfl) (ops_y hH9 rfl rfl (yv_extract rfl rfl) (ops_y hH9 rfl rfl (yv_extract rfl rfl) ?_))
    refine op_alloc (z := (.agg #[(.int .i64 0), (.int .i64 0)])) (us := [(.int .i64 0), (.int .i64 0)]) (fun _ => by kernel_rfl) rfl rfl hH9 (fun b10 w11 hH12 => ?_)
    refine op_store (n := 0) (j := 0) (us := [(.int .i64 (S.spanLo l)), (.int .i64 (S.spanHi l))]) rfl rfl hH12 rfl T.sz50 rfl rfl rfl (by rfl) (fun w13 hH14 => ?_)
    refine ops_y hH14 rfl rfl (yv_assign rfl) (ops_nil (thn_n (seq (region (ops_y hH14 rfl rfl (yv_move rfl) ?_)))))
    refine op_fn rfl rfl rfl hH14 ((by have h := c48 (h0.now hH14 (n := 1) rfl) (by omega); simp only [hbe] at h; exact h)) (fun u17 w15 lo18 hi19 hH16 hv20 => ?_)
    obtain ⟨p22, hu, -⟩ := hv20
    subst hu
    have hH21 := Heap.tup2 hH16 (n := 0) rfl
    refine ops_y hH21 rfl rfl (yv_move rfl) (ops_y hH21 rfl rfl (yv_extract rfl rfl) (ops_y hH21 rfl rfl (yv_extract rfl rfl) (ops_y hH21 rfl rfl (yv_assign rfl) (ops_y hH21 rfl rfl (yv_assign rfl) (ops_nil (thn_n (seq (seq (region ?_)))))))))
    refine ops_y hH21 rfl rfl (yv_move rfl) ?_
    refine ops_y hH21 rfl rfl (yv_castB rfl (yv_neq rfl rfl)) ?_
    refine ops_y hH21 rfl rfl (yv_move rfl) (guard_yes rfl rfl rfl (ops_y hH21 rfl rfl (yv_move rfl) (guard_yes rfl rfl rfl ?_)))
    refine ops_y hH21 rfl rfl (yv_castB rfl (yv_neq rfl rfl)) ?_
    refine ops_y hH21 rfl rfl (yv_pick_f rfl rfl rfl) ?_
    refine ops_y hH21 rfl rfl (yv_move rfl) (guard_yes rfl rfl rfl (ops_y hH21 rfl rfl (yv_move rfl) (guard_yes rfl rfl rfl (ops_y hH21 rfl rfl (yv_move rfl) (guard_yes rfl rfl rfl ?_)))))
    refine op_fnV rfl rfl rfl hH21 (c66 (Heap.rdw T.el22_encI hH21 (n := 0) rfl) (h0.now hH21 (n := 2) rfl) (by omega) (by omega)) (fun w23 hH24 => ?_)
    refine guard_yes rfl rfl rfl ?_
    refine ops_y hH24 rfl rfl (yv_not rfl) ?_
    refine ops_y hH24 rfl rfl (yv_pick_f rfl rfl rfl) ?_
    refine ops_y hH24 rfl rfl (yv_move rfl) ?_
    have hc25 : ¬ (¬ (S.Fits (S.best l) l)) := fun h => h hbf
    refine guard_yes rfl rfl (not_decide_f hc25) ?_
    refine ops_y hH24 rfl rfl (yv_move rfl) ?_
    refine guard_yes rfl rfl (not_decide_f hc25) ?_
    refine op_fnV rfl rfl rfl hH24 (c56 (Heap.rdw T.el22_encI hH24 (n := 0) rfl)) (fun w26 hH27 => ?_)
    refine guard_yes rfl rfl (not_decide_f hc25) ?_
    refine ops_y hH27 rfl rfl (yv_not rfl) ?_
    refine ops_y hH27 rfl rfl (yv_pick_f rfl (not_decide_f hc25) rfl) ?_
    refine ops_nil (thn_n ?_)
    have hc28 : ¬ (¬ (S.J (S.best l))) := fun h => h hbJ
    refine cond_f rfl (not_decide_f hc28) ?_
    refine skip (thn_n (seq ?_))
    refine region_draw (fun w' => Heap [ow lo18 hi19 3 1 encI p22 (S.best l), bx b10 50 [(.int .i64 (S.spanLo l)), (.int .i64 (S.spanHi l))], base w] w') T.mixed (fun w29 hr30 => ?_)
    have hH31 := hH27.redrawn hr30
    refine any_takes [0, 1, 2, 3] (by kernel_rfl) hH31 _ _ _ (by kernel_rfl) ?_
    refine qs_y rfl rfl (yv_field T.f50_0 rfl) ?_
    refine qs_y rfl rfl (yv_load T.one2 rfl (fun _ hw => Heap.cellw hw (n := 1) rfl rfl)) ?_
    refine qs_y rfl rfl (yv_assign rfl) (qs_y rfl rfl (yv_assign rfl) (qs_nil ?_))
    refine any_done (by kernel_rfl) ?_
    refine thn_n (seq (seq (region (ops_y hH31 rfl rfl (yv_assign rfl) (ops_nil (thn_n (block ?_)))))))
    refine loop (S := Nat × List Int × Int × Int × Value × Nat × Nat) (fun (q, o, la, n, v_5, lo_5, hi_5) => [(9, (.int .i64 (q : Int))), (7, (.int .i64 la)), (8, (.int .i64 n)), (5, v_5), (0, v), (3, (.pointer (some ⟨b10, 0, none⟩)))]) (fun (q, o, la, n, v_5, lo_5, hi_5) w1 => Heap [ow lo_5 hi_5 3 1 encI v_5 o, bx b10 50 [(.int .i64 (S.spanLo l)), (.int .i64 (S.spanHi l))], base w] w1 ∧ q ≤ l.length ∧ S.RchI l q o la n) (fun (q, o, la, n, v_5, lo_5, hi_5) => l.length - q) (0, (S.best l), (-1), (S.spanLo l), p22, lo18, hi19) (Sub.cons rfl (Sub.cons rfl (Sub.cons rfl (Sub.cons rfl (Sub.cons rfl (Sub.cons rfl (Sub.nil _))))))) ?_ ?_
    · exact ⟨hH31, by omega, S.RchI.start hk⟩
    · rintro ⟨q, o, la, n, v_5, lo_5, hi_5⟩ w32 ⟨hH33, hq, hR⟩
      show Holds _ _ _ _ _ [(9, (.int .i64 (q : Int))), (7, (.int .i64 la)), (8, (.int .i64 n)), (5, v_5), (0, v), (3, (.pointer (some ⟨b10, 0, none⟩)))] _ _
      have hol := hR.2.1.1
      have hRd := hR.2.2.1
      have hRe := hR.exs hk
      refine seq (seq (region (ops_y hH33 rfl rfl (yv_move rfl) (ops_y hH33 rfl rfl (yv_move rfl) ?_))))
      refine ops_y hH33 rfl rfl (yv_len T.sl22 rfl (h0.now hH33 (n := 2) rfl).is) ?_
      refine ops_y hH33 rfl rfl (yv_lss rfl rfl) ?_
      refine ops_nil (thn_n ?_)
      by_cases hc34 : (q : Int) < (l.length : Int)
      · skip
        refine cond_t rfl (decide_eq_true hc34) ?_
        refine skip (thn_n (seq (block (seq (seq (region (ops_y hH33 rfl rfl (yv_move rfl) (ops_y hH33 rfl rfl (yv_move rfl) ?_))))))))
        refine ops_y hH33 rfl rfl (yv_index T.sl22 rfl rfl (h0.now hH33 (n := 2) rfl).is (by omega)) ?_
        refine ops_y hH33 rfl rfl (yv_load T.one3 rfl (fun _ hw => Rd.at (h0.now hw (n := 2) rfl) (i := (q : Int)) (by omega) (j := 0) rfl)) ?_
        refine ops_y hH33 rfl rfl (yv_geq rfl rfl) ?_
        refine ops_nil (thn_n ?_)
        by_cases hc35 : 0 ≤ (nth l (q : Int))
        · skip
          have hpos : 0 ≤ nth l (q : Int) := by omega
          refine cond_t rfl (decide_eq_true hc35) ?_
          refine exit (thn_x (blk_here (thn_n (region (ops_y hH33 rfl rfl (yv_move rfl) ?_)))))
          refine ops_y hH33 rfl rfl (yv_add rfl rfl (by omega)) ?_
          refine ops_y hH33 rfl rfl (yv_assign rfl) (ops_nil ?_)
          refine lp_n ((q + 1), o, la, n, v_5, lo_5, hi_5) (Sub.cons rfl (Sub.cons rfl (Sub.cons rfl (Sub.cons rfl (Sub.cons rfl (Sub.cons rfl (Sub.nil _))))))) ?_ ?_
          · exact ⟨(Heap.recast (n := 0) hH33 rfl (rfl)), by omega, hR.skip hk (by omega) hpos⟩
          · first | (dsimp only; omega) | (show _ < _; omega)
        · skip
          have hneg : nth l (q : Int) < 0 := by omega
          refine cond_f rfl (decide_eq_false hc35) ?_
          refine skip (thn_n (seq (seq (region (ops_y hH33 rfl rfl (yv_move rfl) ?_)))))
          refine ops_y hH33 rfl rfl (yv_geq rfl rfl) ?_
          refine ops_nil (thn_n ?_)
          by_cases hc36 : 0 ≤ la
          · skip
            have hla : 0 ≤ la := by omega
            have hR2 := hR.step hk (by omega) hneg hla
            have hxe : S.exsR ((o.set (la).toNat (nth o (q : Int))).set ((q : Int)).toNat (nth o la)) = (S.exs (S.swp o la (q : Int)), 0) := S.ex2 (S.check_iff.2 hR2.1)
            have hR3 := hR2.exs hk
            have hfi : S.Fits ((o.set (la).toNat (nth o (q : Int))).set ((q : Int)).toNat (nth o la)) l := hR2.2.1
            have hsl : ((o.set (la).toNat (nth o (q : Int))).set ((q : Int)).toNat (nth o la)).length = l.length := hR2.2.1.1
            have hsl2 : (o.set (la).toNat (nth o (q : Int))).length = l.length := (List.length_set).trans hol
            refine cond_t rfl (decide_eq_true hc36) ?_
            refine seq (region (ops_y hH33 rfl rfl (yv_move rfl) ?_))
            refine op_fn rfl rfl rfl hH33 (c60 (Heap.rdw T.el22_encI hH33 (n := 0) rfl) (by omega)) (fun u39 w37 lo40 hi41 hH38 hv42 => ?_)
            have hH43 := Heap.toOw hH38 (n := 0) rfl
            refine ops_y hH43 rfl rfl (yv_assign rfl) (ops_nil (thn_n (seq ?_)))
            refine region_drawY (fun w' => Heap [ow lo40 hi41 3 1 encI u39 o, ow lo_5 hi_5 3 1 encI v_5 o, bx b10 50 [(.int .i64 (S.spanLo l)), (.int .i64 (S.spanHi l))], base w] w') [13, 15] T.mixed (fun w44 hr45 => ?_)
            have hH46 := hH43.redrawn hr45
            refine any_takesT [0, 1, 2, 3, 4, 5, 6, 8, 9, 10] (by kernel_rfl)  _ _ _ (by kernel_rfl) ?_
            refine qs_y rfl rfl (yv_move rfl) (qs_y rfl rfl (yv_move rfl) (qs_y rfl rfl (yv_move rfl) (qs_y rfl rfl (yv_move rfl) (qs_y rfl rfl (yv_move rfl) (qs_y rfl rfl (yv_move rfl) ?_)))))
            refine qs_y rfl rfl (yv_index T.sl22 rfl rfl (Heap.rdw T.el22_encI hH46 (n := 0) rfl).is (by omega)) ?_
            refine qs_y rfl rfl (yv_move rfl) (qs_y rfl rfl (yv_move rfl) ?_)
            refine qs_y rfl rfl (yv_index T.sl22 rfl rfl (Heap.rdw T.el22_encI hH46 (n := 0) rfl).is (by omega)) ?_
            refine qs_nil ?_
            refine any_takesY [7, 11] (by kernel_rfl) hH46 _ _ _ (by kernel_rfl) ?_
            refine qs_y rfl rfl (yv_load T.one3 rfl (fun _ hw => Rd.at (Heap.rdw T.el22_encI hw (n := 0) rfl) (i := (q : Int)) (by omega) (j := 0) rfl)) ?_
            refine qs_y rfl rfl (yv_load T.one3 rfl (fun _ hw => Rd.at (Heap.rdw T.el22_encI hw (n := 0) rfl) (i := la) (by omega) (j := 0) rfl)) ?_
            refine qs_nil ?_
            refine any_takesT [12] (by kernel_rfl)  _ _ _ (by kernel_rfl) ?_
            refine qs_y rfl rfl (yv_index T.sl22 rfl rfl (Heap.rdw T.el22_encI hH46 (n := 0) rfl).is (by omega)) ?_
            refine qs_nil ?_
            refine any_allY [13] (by kernel_rfl) rfl ?_
            refine ⟨⟨_, rfl, ?_⟩, trivial⟩
            · skip
              refine op_setE (n := 0) (i := la) (k := 0) (us := [(.int .i64 (nth o (q : Int)))]) (z := nth o (q : Int)) T.el22_encI rfl rfl hH46 rfl (by omega) T.sz3 rfl rfl rfl (Nat.le_of_ble_eq_true rfl) (fun w47 hH48 => ?_)
              refine ops_nil ?_
              refine ⟨(fun h => by cases h), ?_⟩
              refine any_takesT [14] (by kernel_rfl)  _ _ _ (by kernel_rfl) ?_
              refine qs_y rfl rfl (yv_index T.sl22 rfl rfl (Heap.rdw T.el22_encI hH48 (n := 0) rfl).is (by omega)) ?_
              refine qs_nil ?_
              refine any_allY [15] (by kernel_rfl) rfl ?_
              refine ⟨⟨_, rfl, ?_⟩, trivial⟩
              · skip
                refine op_setE (n := 0) (i := (q : Int)) (k := 0) (us := [(.int .i64 (nth o la))]) (z := nth o la) T.el22_encI rfl rfl hH48 rfl (by omega) T.sz3 rfl rfl rfl (Nat.le_of_ble_eq_true rfl) (fun w49 hH50 => ?_)
                refine ops_nil ?_
                refine ⟨(fun h => by cases h), ?_⟩
                refine any_doneY (by kernel_rfl) ?_
                refine thn_n (seq (region (ops_y hH50 rfl rfl (yv_move rfl) ?_)))
                refine ops_y hH50 rfl rfl (yv_add rfl rfl (by omega)) ?_
                refine ops_y hH50 rfl rfl (yv_assign rfl) (ops_nil (thn_n (seq (region (ops_y hH50 rfl rfl (yv_move rfl) ?_)))))
                refine op_fn rfl rfl rfl hH50 ((by have h := c29 (Heap.rdw T.el22_encI hH50 (n := 0) rfl) (by omega); simp only [hxe] at h; exact h)) (fun u53 w51 lo54 hi55 hH52 hv56 => ?_)
                obtain ⟨p58, hu, -⟩ := hv56
                subst hu
                have hH57 := Heap.tup2 hH52 (n := 0) rfl
                refine ops_y hH57 rfl rfl (yv_move rfl) (ops_y hH57 rfl rfl (yv_extract rfl rfl) (ops_y hH57 rfl rfl (yv_extract rfl rfl) (ops_y hH57 rfl rfl (yv_assign rfl) (ops_y hH57 rfl rfl (yv_assign rfl) (ops_nil (thn_n (seq (region (ops_y hH57 rfl rfl (yv_move rfl) ?_)))))))))
                refine ops_y hH57 rfl rfl (yv_castB rfl (yv_neq rfl rfl)) ?_
                refine ops_y hH57 rfl rfl (yv_move rfl) (guard_yes rfl rfl rfl (ops_y hH57 rfl rfl (yv_move rfl) (guard_yes rfl rfl rfl ?_)))
                refine ops_y hH57 rfl rfl (yv_len T.sl29 rfl (Heap.rdw T.el29_encP hH57 (n := 0) rfl).is) ?_
                refine guard_yes rfl rfl rfl (ops_y hH57 rfl rfl (yv_move rfl) (guard_yes rfl rfl rfl ?_))
                refine ops_y hH57 rfl rfl (yv_neq rfl rfl) ?_
                refine ops_y hH57 rfl rfl (yv_pick_f rfl rfl rfl) ?_
                refine ops_y hH57 rfl rfl (yv_move rfl) ?_
                have hc59 : ¬ (¬ (((S.exs (S.swp o la (q : Int))).length : Int) = (n + 1))) := by omega
                refine guard_yes rfl rfl (not_decide_f hc59) ?_
                refine ops_y hH57 rfl rfl (yv_move rfl) ?_
                refine guard_yes rfl rfl (not_decide_f hc59) ?_
                refine ops_y hH57 rfl rfl (yv_move rfl) ?_
                refine guard_yes rfl rfl (not_decide_f hc59) ?_
                refine op_fnV rfl rfl rfl hH57 (c66 (Heap.rdw T.el22_encI hH57 (n := 1) rfl) (h0.now hH57 (n := 4) rfl) (by omega) (by omega)) (fun w60 hH61 => ?_)
                refine guard_yes rfl rfl (not_decide_f hc59) ?_
                refine ops_y hH61 rfl rfl (yv_not rfl) ?_
                refine ops_y hH61 rfl rfl (yv_pick_f rfl (not_decide_f hc59) rfl) ?_
                refine ops_nil (thn_n ?_)
                have hc62 : ¬ (¬ (S.Fits ((o.set la.toNat (nth o (q : Int))).set (q : Int).toNat (nth o la)) l)) := fun h => h hfi
                refine cond_f rfl (not_decide_f hc62) ?_
                refine skip (thn_n (region (ops_y hH61 rfl rfl (yv_move rfl) (ops_y hH61 rfl rfl (yv_assign rfl) (ops_nil (blk_n (thn_n (region (ops_y hH61 rfl rfl (yv_move rfl) ?_)))))))))
                refine ops_y hH61 rfl rfl (yv_add rfl rfl (by omega)) ?_
                refine ops_y hH61 rfl rfl (yv_assign rfl) (ops_nil ?_)
                have hH63 := (hH61.sub (List.Sublist.cons _ (List.Sublist.cons_cons _ (List.Sublist.cons _ (List.Sublist.refl _)))))
                refine lp_n ((q + 1), (S.swp o la (q : Int)), (q : Int), (n + 1), u39, lo40, hi41) (Sub.cons rfl (Sub.cons rfl (Sub.cons rfl (Sub.cons rfl (Sub.cons rfl (Sub.cons rfl (Sub.nil _))))))) ?_ ?_
                · exact ⟨(Heap.recast (n := 0) hH63 rfl (rfl)), by omega, hR.step hk (by omega) hneg hla⟩
                · first | (dsimp only; omega) | (show _ < _; omega)
          · skip
            have hnla : ¬ 0 ≤ la := by omega
            refine cond_f rfl (decide_eq_false hc36) ?_
            refine skip (thn_n (region (ops_y hH33 rfl rfl (yv_move rfl) (ops_y hH33 rfl rfl (yv_assign rfl) (ops_nil (blk_n (thn_n (region (ops_y hH33 rfl rfl (yv_move rfl) ?_)))))))))
            refine ops_y hH33 rfl rfl (yv_add rfl rfl (by omega)) ?_
            refine ops_y hH33 rfl rfl (yv_assign rfl) (ops_nil ?_)
            refine lp_n ((q + 1), o, (q : Int), n, v_5, lo_5, hi_5) (Sub.cons rfl (Sub.cons rfl (Sub.cons rfl (Sub.cons rfl (Sub.cons rfl (Sub.cons rfl (Sub.nil _))))))) ?_ ?_
            · exact ⟨(Heap.recast (n := 0) hH33 rfl (rfl)), by omega, hR.first hk (by omega) hneg hnla⟩
            · first | (dsimp only; omega) | (show _ < _; omega)
      · skip
        refine cond_f rfl (decide_eq_false hc34) ?_
        refine exit (thn_x (lp_x (blk_here (thn_n (seq ?_)))))
        have hqe : q = l.length := by omega
        have hfin : n = S.spanHi l := (hqe ▸ hR).done
        refine region (ops_y hH33 rfl rfl (yv_move rfl) ?_)
        refine ops_y hH33 rfl rfl (yv_field T.f50_1 rfl) ?_
        refine ops_y hH33 rfl rfl (yv_load T.one2 rfl (fun _ hw => Heap.cellw hw (n := 1) rfl rfl)) ?_
        refine ops_y hH33 rfl rfl (yv_eql rfl rfl) ?_
        refine ops_y hH33 rfl rfl (yv_move rfl) ?_
        have hc64 : n = (S.spanHi l) := by omega
        refine guard_yes rfl rfl (decide_eq_true hc64) ?_
        refine op_fnV rfl rfl rfl hH33 (c18) (fun w65 hH66 => ?_)
        refine ops_y hH66 rfl rfl (yv_pick_t rfl (decide_eq_true hc64) rfl) ?_
        refine ops_y hH66 rfl rfl (yv_assign rfl) (ops_nil (thn_n (ret ?_)))
        have hH67 := (hH66.sub (List.Sublist.cons _ (List.Sublist.cons _ (List.Sublist.refl _))))
        refine fin hH67 (fun w' hf => (res1 rfl (show RV _ _ _ (.tmp 2) _ from rfl))) (fun w' hf => ?_)
        rfl
  · skip
    have hnr : ¬ S.Rg l := ‹_›
    have hcn : ¬ S.check l (-1) = 0 := fun h => hnr (S.check_iff.1 h)
    refine region (ops_y hH rfl rfl (yv_move rfl) ?_)
    refine op_fnV rfl rfl rfl hH (c17 (h0.now hH (n := 0) rfl)) (fun w68 hH69 => ?_)
    refine ops_y hH69 rfl rfl (yv_move rfl) ?_
    by_cases hc70 : 16 < (l.length : Int)
    · skip
      refine guard_no rfl rfl (decide_eq_true hc70) rfl ?_
      refine guard_no rfl rfl (decide_eq_true hc70) rfl ?_
      refine guard_no rfl rfl (decide_eq_true hc70) rfl ?_
      refine ops_y hH69 rfl rfl (yv_pick_t rfl (decide_eq_true hc70) rfl) ?_
      refine ops_nil (thn_n ?_)
      refine cond_t rfl rfl ?_
      refine seq (region ?_)
      refine op_fnV rfl rfl rfl hH69 (c18) (fun w71 hH72 => ?_)
      refine ops_y hH72 rfl rfl (yv_assign rfl) (ops_nil (thn_n (ret (thn_r ?_))))
      refine fin hH72 (fun w' hf => (res1 rfl (show RV _ _ _ (.tmp 2) _ from rfl))) (fun w' hf => ?_)
      rfl
    · skip
      refine guard_yes rfl rfl (decide_eq_false hc70) ?_
      refine ops_y hH69 rfl rfl (yv_move rfl) ?_
      refine guard_yes rfl rfl (decide_eq_false hc70) ?_
      refine op_fnV rfl rfl rfl hH69 (c55 (h0.now hH69 (n := 0) rfl) (by omega)) (fun w73 hH74 => ?_)
      refine guard_yes rfl rfl (decide_eq_false hc70) ?_
      refine ops_y hH74 rfl rfl (yv_neq rfl rfl) ?_
      refine ops_y hH74 rfl rfl (yv_pick_f rfl (decide_eq_false hc70) rfl) ?_
      refine ops_nil (thn_n ?_)
      have hc75 : ¬ ((S.check l (-1)) = 0) := hcn
      refine cond_t rfl (not_decide_t hc75) ?_
      refine seq (region ?_)
      refine op_fnV rfl rfl rfl hH74 (c18) (fun w76 hH77 => ?_)
      refine ops_y hH77 rfl rfl (yv_assign rfl) (ops_nil (thn_n (ret (thn_r ?_))))
      refine fin hH77 (fun w' hf => (res1 rfl (show RV _ _ _ (.tmp 2) _ from rfl))) (fun w' hf => ?_)
      rfl

end Go.Fip
