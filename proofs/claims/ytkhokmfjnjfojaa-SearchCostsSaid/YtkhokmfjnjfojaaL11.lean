/- Walks, by program (wip/tools). -/
import Derived.Test.YtkhokmfjnjfojaaL10
set_option linter.unusedVariables false
set_option linter.unusedSimpArgs false
set_option linter.unusedSectionVars false
set_option linter.unnecessarySimpa false
namespace Go.Fip
open Go.Proofs Go.RowKit

theorem c76 {N : Nat} {w : World} (hN : N ≤ 8)  :
    Fn Try.prog 76 [(.int .i64 (N : Int))].toArray w ((fun x w2 => Below w.heap.size w w2 → ∃ VV, RowsV x VV (Q.treesL N) w2)) := by
  refine fn_of' (args := [(.int .i64 (N : Int))]) Try.func76 rfl (ent Try.func76 (by kernel_rfl) rfl) rfl rfl (fun hH => ?_)
  refine seq (region (ops_y hH rfl rfl (yv_assign rfl) (ops_nil (thn_n (seq (region ?_))))))
  refine op_lit (us := [(0, (.slice none 0 0))]) T.el100_encV [nilV] rfl (by decide) rfl (fun a ha => by simp [ha.ev (show ev _ (.const (.slice none 0 0)) = some _ from rfl)]) (fun w => by kernel_rfl) hH (fun u1 lo3 hi4 w2 hH5 => ?_)
  obtain ⟨x0, hx0⟩ := (RowsV.one (Heap.rdw T.el100_encV hH5 (n := 0) rfl)).sv
  subst hx0
  refine op_lit (us := [(0, x0.1)]) T.el121_encV [x0] rfl (by decide) rfl (fun a ha => by simp [ha.ev (show ev _ (.tmp 9) = some _ from rfl)]) (fun w => by obtain ⟨_, _, _, e⟩ := (x0).2; rw [show [x0].flatMap encV = [(x0).1] from rfl, e]; kernel_rfl) hH5 (fun u6 lo8 hi9 w7 hH10 => ?_)
  refine ops_y hH10 rfl rfl (yv_assign rfl) (ops_nil (thn_n (seq (seq (region (ops_y hH10 rfl rfl (yv_assign rfl) (ops_nil (thn_n (block ?_)))))))))
  have hH11 := Heap.startW hH10
  refine loop (S := Nat × List RvI × Value × Nat × Nat) (fun (n, Vs, v_3, lo_3, hi_3) => [(4, (.int .i64 ((n + 1 : Nat) : Int))), (3, v_3), (0, (.int .i64 (N : Int))), (2, (.slice none 0 0))]) (fun (n, Vs, v_3, lo_3, hi_3) w1 => Heap ([ow lo_3 hi_3 100 1 encV v_3 (Vs.map (·.s)), base w] ++ Vs.map rowW) w1 ∧ n ≤ N ∧ Vs.map (·.l) = (Q.allL n)) (fun (n, Vs, v_3, lo_3, hi_3) => N - n) (0, [RvI.mk lo3 hi4 x0 [nilV] [[]]], u6, lo8, hi9) (Sub.cons rfl (Sub.cons rfl (Sub.cons rfl (Sub.cons rfl (Sub.nil _))))) ?_ ?_
  · exact ⟨(Heap.recast (n := 0) hH11 rfl (rfl)), by omega, rfl⟩
  · rintro ⟨n, Vs, v_3, lo_3, hi_3⟩ w12 ⟨hH13, hn, hV⟩
    show Holds _ _ _ _ _ [(4, (.int .i64 ((n + 1 : Nat) : Int))), (3, v_3), (0, (.int .i64 (N : Int))), (2, (.slice none 0 0))] _ _
    refine seq (seq (region (ops_y hH13 rfl rfl (yv_move rfl) (ops_y hH13 rfl rfl (yv_move rfl) ?_))))
    refine ops_y hH13 rfl rfl (yv_leq rfl rfl) ?_
    refine ops_nil (thn_n ?_)
    by_cases hc14 : ((n + 1 : Nat) : Int) ≤ (N : Int)
    · skip
      refine cond_t rfl (decide_eq_true hc14) ?_
      refine skip (thn_n (seq (block (seq ?_))))
      have hW0 := RowsW.tail T.el121_encV (u := v_3) (H := [ow lo_3 hi_3 100 1 encV v_3 (Vs.map (·.s)), base w]) (n := 0) (Rs := Vs) hH13 rfl
      rw [hV] at hW0
      obtain ⟨SS, TT, hSS, hW⟩ : ∃ SS TT, SS.length = n + 1 ∧ RowsW v_3 SS TT (Q.allL n) w12 := ⟨_, _, by have h9 := hW0.2.2.1; rw [Q.allL_length] at h9; exact h9, hW0⟩
      have hH15 := Heap.start w12
      refine region (ops_y hH15 rfl rfl (yv_assign rfl) (ops_nil (thn_n (seq (seq (region (ops_y hH15 rfl rfl (yv_assign rfl) (ops_nil (thn_n ?_)))))))))
      refine block ?_
      have hH16 := ow_nil (enc := encV) 22 1 hH15
      refine loop (S := Nat × List RwI × Value × Nat × Nat) (fun (r, Rs, v_5, lo_5, hi_5) => [(6, (.int .i64 (r : Int))), (5, v_5), (0, (.int .i64 (N : Int))), (2, (.slice none 0 0)), (3, v_3), (4, (.int .i64 ((n + 1 : Nat) : Int)))]) (fun (r, Rs, v_5, lo_5, hi_5) w1 => Heap ([ow lo_5 hi_5 22 1 encV v_5 (Rs.map fun x => svV x.s), base w12] ++ Rs.map rowI) w1 ∧ r ≤ n + 1 ∧ Rs.map (·.l) = Q.gA (Q.allL n) (n + 1) r) (fun (r, Rs, v_5, lo_5, hi_5) => n + 1 - r) (0, [], (.slice none 0 0), w12.heap.size, w12.heap.size) (Sub.cons rfl (Sub.cons rfl (Sub.cons rfl (Sub.cons rfl (Sub.cons rfl (Sub.cons rfl (Sub.nil _))))))) ?_ ?_
      · exact ⟨(Heap.recast (n := 0) hH16 rfl (rfl)), by omega, rfl⟩
      · rintro ⟨r, Rs, v_5, lo_5, hi_5⟩ w17 ⟨hH18, hr, hR⟩
        show Holds _ _ _ _ _ [(6, (.int .i64 (r : Int))), (5, v_5), (0, (.int .i64 (N : Int))), (2, (.slice none 0 0)), (3, v_3), (4, (.int .i64 ((n + 1 : Nat) : Int)))] _ _
        refine seq (seq (region (ops_y hH18 rfl rfl (yv_move rfl) (ops_y hH18 rfl rfl (yv_move rfl) ?_))))
        refine ops_y hH18 rfl rfl (yv_lss rfl rfl) ?_
        refine ops_nil (thn_n ?_)
        by_cases hc19 : (r : Int) < ((n + 1 : Nat) : Int)
        · skip
          refine cond_t rfl (decide_eq_true hc19) ?_
          refine skip (thn_n (seq (block (seq ?_))))
          have hA8 := Q.cnt8 r (by omega)
          have hB8 := Q.cnt8 (n + 1 - 1 - r) (by omega)
          have hA := Q.all_len (n := n) (k := r) (by omega) (by omega)
          have hTa : (nth TT (r : Int)).length = Q.cnt r := by rw [(hW.at (i := (r : Int)) (by omega) (by omega)).2.1]; exact hA
          have hB := Q.all_len (n := n) (k := (n + 1 - 1 - r)) (by omega) (by omega)
          have hTb : (nth TT (((n + 1 - 1 - r) : Nat) : Int)).length = Q.cnt (n + 1 - 1 - r) := by rw [(hW.at (i := (((n + 1 - 1 - r) : Nat) : Int)) (by omega) (by omega)).2.1]; exact hB
          refine region (ops_y hH18 rfl rfl (yv_assign rfl) (ops_nil (thn_n (block ?_))))
          refine loop (S := Nat × List RwI × Value × Nat × Nat) (fun (i, Rs, v_5, lo_5, hi_5) => [(7, (.int .i64 (i : Int))), (5, v_5), (0, (.int .i64 (N : Int))), (2, (.slice none 0 0)), (3, v_3), (4, (.int .i64 ((n + 1 : Nat) : Int))), (6, (.int .i64 (r : Int)))]) (fun (i, Rs, v_5, lo_5, hi_5) w1 => Heap ([ow lo_5 hi_5 22 1 encV v_5 (Rs.map fun x => svV x.s), base w12] ++ Rs.map rowI) w1 ∧ i ≤ Q.cnt r ∧ Rs.map (·.l) = Q.gA (Q.allL n) (n + 1) r ++ Q.crs ((nth (Q.allL n) (r : Int)).take i) (nth (Q.allL n) (((n + 1 - 1 - r) : Nat) : Int))) (fun (i, Rs, v_5, lo_5, hi_5) => Q.cnt r - i) (0, Rs, v_5, lo_5, hi_5) (Sub.cons rfl (Sub.cons rfl (Sub.cons rfl (Sub.cons rfl (Sub.cons rfl (Sub.cons rfl (Sub.cons rfl (Sub.nil _)))))))) ?_ ?_
          · exact ⟨(Heap.recast (n := 0) hH18 rfl (rfl)), by omega, by rw [hR]; simp [Q.crs]⟩
          · rintro ⟨i, Rs, v_5, lo_5, hi_5⟩ w20 ⟨hH21, hi, hR⟩
            show Holds _ _ _ _ _ [(7, (.int .i64 (i : Int))), (5, v_5), (0, (.int .i64 (N : Int))), (2, (.slice none 0 0)), (3, v_3), (4, (.int .i64 ((n + 1 : Nat) : Int))), (6, (.int .i64 (r : Int)))] _ _
            refine seq (seq (region (ops_y hH21 rfl rfl (yv_move rfl) (ops_y hH21 rfl rfl (yv_move rfl) (ops_y hH21 rfl rfl (yv_move rfl) ?_)))))
            refine ops_y hH21 rfl rfl (yv_index T.sl121 rfl rfl (hW.1.now hH21 (n := 1) rfl).is (by omega)) ?_
            refine ops_y hH21 rfl rfl (yv_load T.one100 rfl (fun _ hw => Rd.at (hW.1.now hw (n := 1) rfl) (i := (r : Int)) (by omega) (j := 0) rfl)) ?_
            refine ops_y hH21 rfl rfl (yv_len T.sl100 rfl (((hW.at (i := (r : Int)) (by omega) (by omega)).now hH21 (n := 1) rfl).1).is) ?_
            refine ops_y hH21 rfl rfl (yv_lss rfl rfl) ?_
            refine ops_nil (thn_n ?_)
            by_cases hc22 : (i : Int) < ((nth TT (r : Int)).length : Int)
            · skip
              refine cond_t rfl (decide_eq_true hc22) ?_
              refine skip (thn_n (seq (block (seq (region (ops_y hH21 rfl rfl (yv_assign rfl) (ops_nil (thn_n (block ?_)))))))))
              refine loop (S := Nat × List RwI × Value × Nat × Nat) (fun (j, Rs, v_5, lo_5, hi_5) => [(8, (.int .i64 (j : Int))), (5, v_5), (0, (.int .i64 (N : Int))), (2, (.slice none 0 0)), (3, v_3), (4, (.int .i64 ((n + 1 : Nat) : Int))), (6, (.int .i64 (r : Int))), (7, (.int .i64 (i : Int)))]) (fun (j, Rs, v_5, lo_5, hi_5) w1 => Heap ([ow lo_5 hi_5 22 1 encV v_5 (Rs.map fun x => svV x.s), base w12] ++ Rs.map rowI) w1 ∧ j ≤ Q.cnt (n + 1 - 1 - r) ∧ Rs.map (·.l) = Q.gA (Q.allL n) (n + 1) r ++ Q.crs ((nth (Q.allL n) (r : Int)).take i) (nth (Q.allL n) (((n + 1 - 1 - r) : Nat) : Int)) ++ ((nth (Q.allL n) (((n + 1 - 1 - r) : Nat) : Int)).take j).map (fun b => Q.hung (nth (nth (Q.allL n) (r : Int)) (i : Int)) b)) (fun (j, Rs, v_5, lo_5, hi_5) => Q.cnt (n + 1 - 1 - r) - j) (0, Rs, v_5, lo_5, hi_5) (Sub.cons rfl (Sub.cons rfl (Sub.cons rfl (Sub.cons rfl (Sub.cons rfl (Sub.cons rfl (Sub.cons rfl (Sub.cons rfl (Sub.nil _))))))))) ?_ ?_
              · exact ⟨(Heap.recast (n := 0) hH21 rfl (rfl)), by omega, by rw [hR]; simp⟩
              · rintro ⟨j, Rs, v_5, lo_5, hi_5⟩ w23 ⟨hH24, hj, hR⟩
                show Holds _ _ _ _ _ [(8, (.int .i64 (j : Int))), (5, v_5), (0, (.int .i64 (N : Int))), (2, (.slice none 0 0)), (3, v_3), (4, (.int .i64 ((n + 1 : Nat) : Int))), (6, (.int .i64 (r : Int))), (7, (.int .i64 (i : Int)))] _ _
                refine seq (seq (region (ops_y hH24 rfl rfl (yv_move rfl) (ops_y hH24 rfl rfl (yv_move rfl) (ops_y hH24 rfl rfl (yv_move rfl) ?_)))))
                refine ops_y hH24 rfl rfl (yv_sub rfl rfl (by omega)) ?_
                refine ops_y hH24 rfl rfl (yv_move rfl) ?_
                refine ops_y hH24 rfl rfl (yv_cast (show _ = (((n + 1 - 1 - r) : Nat) : Int) by omega) (yv_sub rfl rfl (by omega))) ?_
                refine ops_y hH24 rfl rfl (yv_index T.sl121 rfl rfl (hW.1.now hH24 (n := 1) rfl).is (by omega)) ?_
                refine ops_y hH24 rfl rfl (yv_load T.one100 rfl (fun _ hw => Rd.at (hW.1.now hw (n := 1) rfl) (i := (((n + 1 - 1 - r) : Nat) : Int)) (by omega) (j := 0) rfl)) ?_
                refine ops_y hH24 rfl rfl (yv_len T.sl100 rfl (((hW.at (i := (((n + 1 - 1 - r) : Nat) : Int)) (by omega) (by omega)).now hH24 (n := 1) rfl).1).is) ?_
                refine ops_y hH24 rfl rfl (yv_lss rfl rfl) ?_
                refine ops_nil (thn_n ?_)
                by_cases hc25 : (j : Int) < ((nth TT (((n + 1 - 1 - r) : Nat) : Int)).length : Int)
                · skip
                  refine cond_t rfl (decide_eq_true hc25) ?_
                  refine skip (thn_n (seq (block ?_)))
                  have hra := Q.all_row (n := n) (k := r) (i := i) (by omega) (by rw [hA]; omega)
                  have hrb := Q.all_row (n := n) (k := (n + 1 - 1 - r)) (i := j) (by omega) (by rw [hB]; omega)
                  have hsm0 := Q.all_sm (n := n) (k := r) (i := i) (by omega) (by omega) (by rw [hA]; omega)
                  have hsm1 := Q.all_sm (n := n) (k := (n + 1 - 1 - r)) (i := j) (by omega) (by omega) (by rw [hB]; omega)
                  have hhl := Q.hung_length (l := nth (nth (Q.allL n) (r : Int)) (i : Int)) (r := nth (nth (Q.allL n) (((n + 1 - 1 - r) : Nat) : Int)) (j : Int))
                  have hRl : (Rs.map fun x => svV x.s).length ≤ 1430 := by have h1 := congrArg List.length hR; have h2 := Q.all_gen (n := n) (r := r) (i := i) (j := j) (by omega) (by omega) (by omega) (by omega); rw [List.length_map] at h1 ⊢; omega
                  refine region_drawY (fun w' => Heap ([base w12] ++ Rs.map rowI) w') [20] T.mixed (fun w26 hr27 => ?_)
                  have hH28 := hH24.redrawn hr27
                  refine any_takesT [0, 1, 2, 3, 5, 8, 9, 10, 11, 12, 13, 15] (by kernel_rfl)  _ _ _ (by kernel_rfl) ?_
                  refine qs_y rfl rfl (yv_move rfl) (qs_y rfl rfl (yv_move rfl) (qs_y rfl rfl (yv_move rfl) ?_))
                  refine qs_y rfl rfl (yv_index T.sl121 rfl rfl (hW.1.now hH28 (n := 1) rfl).is (by omega)) ?_
                  refine qs_y rfl rfl (yv_move rfl) (qs_y rfl rfl (yv_move rfl) (qs_y rfl rfl (yv_move rfl) ?_))
                  refine qs_y rfl rfl (yv_sub rfl rfl (by omega)) ?_
                  refine qs_y rfl rfl (yv_move rfl) ?_
                  refine qs_y rfl rfl (yv_cast (show _ = (((n + 1 - 1 - r) : Nat) : Int) by omega) (yv_sub rfl rfl (by omega))) ?_
                  refine qs_y rfl rfl (yv_index T.sl121 rfl rfl (hW.1.now hH28 (n := 1) rfl).is (by omega)) ?_
                  refine qs_y rfl rfl (yv_move rfl) (qs_nil ?_)
                  refine any_takesY [4, 14] (by kernel_rfl) (hH28.sub (List.Sublist.cons _ (List.Sublist.refl _))) _ _ _ (by kernel_rfl) ?_
                  refine qs_y rfl rfl (yv_load T.one100 rfl (fun _ hw => Rd.at (hW.1.now hw (n := 0) rfl) (i := (r : Int)) (by omega) (j := 0) rfl)) ?_
                  refine qs_y rfl rfl (yv_load T.one100 rfl (fun _ hw => Rd.at (hW.1.now hw (n := 0) rfl) (i := (((n + 1 - 1 - r) : Nat) : Int)) (by omega) (j := 0) rfl)) ?_
                  refine qs_nil ?_
                  refine any_takesT [6, 16] (by kernel_rfl)  _ _ _ (by kernel_rfl) ?_
                  refine qs_y rfl rfl (yv_index T.sl100 rfl rfl (((hW.at (i := (r : Int)) (by omega) (by omega)).now hH28 (n := 1) rfl).1).is (by omega)) ?_
                  refine qs_y rfl rfl (yv_index T.sl100 rfl rfl (((hW.at (i := (((n + 1 - 1 - r) : Nat) : Int)) (by omega) (by omega)).now hH28 (n := 1) rfl).1).is (by omega)) ?_
                  refine qs_nil ?_
                  refine any_takesY [7, 17] (by kernel_rfl) (hH28.sub (List.Sublist.cons _ (List.Sublist.refl _))) _ _ _ (by kernel_rfl) ?_
                  refine qs_y rfl rfl (yv_load T.one22 rfl (fun _ hw => Rd.at (((hW.at (i := (r : Int)) (by omega) (by omega)).now hw (n := 0) rfl).1) (i := (i : Int)) (by omega) (j := 0) rfl)) ?_
                  refine qs_y rfl rfl (yv_load T.one22 rfl (fun _ hw => Rd.at (((hW.at (i := (((n + 1 - 1 - r) : Nat) : Int)) (by omega) (by omega)).now hw (n := 0) rfl).1) (i := (j : Int)) (by omega) (j := 0) rfl)) ?_
                  refine qs_nil ?_
                  refine any_allY [18] (by kernel_rfl) rfl ?_
                  refine ⟨⟨_, rfl, ?_⟩, trivial⟩
                  · skip
                    refine op_fn rfl rfl rfl hH28 (c80 (RowsV.at ((hW.at (i := (r : Int)) (by omega) (by omega)).now hH28 (n := 1) rfl) (by omega) (by omega)) (RowsV.at ((hW.at (i := (((n + 1 - 1 - r) : Nat) : Int)) (by omega) (by omega)).now hH28 (n := 1) rfl) (by omega) (by omega)) (by omega) (by omega) hsm0 hsm1) (fun u31 w29 lo32 hi33 hH30 hv34 => ?_)
                    have hH35 := Heap.toOw hH30 (n := 0) rfl
                    refine ops_nil ?_
                    refine ⟨fun _ _ => (hH35.sub (List.Sublist.cons _ (List.Sublist.cons _ (List.Sublist.refl _)))), ?_⟩
                    refine any_allY [19] (by kernel_rfl) rfl ?_
                    refine ⟨⟨_, rfl, ?_⟩, trivial⟩
                    · skip
                      obtain ⟨s36, hs37⟩ := Heap.sv hH35 (n := 0) rfl (by omega)
                      refine op_lit (us := [(0, u31)]) T.el100_encV [svV s36] rfl (by decide) rfl (fun a ha => by simp [ha.ev (show ev _ (.tmp 60) = some _ from rfl)]) (fun w => by rw [hs37]; kernel_rfl) hH35 (fun u38 lo40 hi41 w39 hH42 => ?_)
                      refine ops_nil ?_
                      refine ⟨fun _ _ => (hH42.sub (List.Sublist.cons _ (List.Sublist.cons _ (List.Sublist.cons _ (List.Sublist.refl _))))), ?_⟩
                      refine any_allY [20] (by kernel_rfl) rfl ?_
                      refine ⟨⟨_, rfl, ?_⟩, trivial⟩
                      · skip
                        refine op_append (n := 2) T.el100_encV rfl rfl rfl hH42 rfl (Heap.rdw T.el100_encV hH42 (n := 0) rfl) (by first | omega | (simp only [List.length_append, List.length_cons, List.length_nil]; omega)) (fun u43 lo45 hi46 w44 hH47 => ?_)
                        refine ops_nil ?_
                        refine ⟨(fun h => by cases h), ?_⟩
                        refine any_takesT [21] (by kernel_rfl)  _ _ _ (by kernel_rfl) ?_
                        refine qs_y rfl rfl (yv_assign rfl) (qs_nil ?_)
                        refine any_doneY (by kernel_rfl) ?_
                        refine blk_n (thn_n (region (ops_y hH47 rfl rfl (yv_move rfl) ?_)))
                        refine ops_y hH47 rfl rfl (yv_add rfl rfl (by omega)) ?_
                        refine ops_y hH47 rfl rfl (yv_assign rfl) (ops_nil ?_)
                        have hH48 := (hH47.sub (List.Sublist.cons _ (List.Sublist.refl _)))
                        have hH49 := Heap.totail (L := [ow lo45 hi46 22 1 encV u43 ((Rs.map fun x => svV x.s) ++ [svV s36]), base w12]) hH48 hs37
                        refine lp_n (j + 1, (Rs ++ [RwI.mk lo32 hi33 s36 (Q.hung (nth (nth (Q.allL n) (r : Int)) (i : Int)) (nth (nth (Q.allL n) (((n + 1 - 1 - r) : Nat) : Int)) (j : Int)))]), u43, lo45, hi46) (Sub.cons rfl (Sub.cons rfl (Sub.cons rfl (Sub.cons rfl (Sub.cons rfl (Sub.cons rfl (Sub.cons rfl (Sub.cons rfl (Sub.nil _))))))))) ?_ ?_
                        · exact ⟨(Heap.recast (n := 0) hH49 rfl (hdV_snoc rfl)), by omega, snd_snoc hR (Q.tk_succ (by rw [hB]; omega)) rfl⟩
                        · first | (dsimp only; omega) | (show _ < _; omega)
                · skip
                  refine cond_f rfl (decide_eq_false hc25) ?_
                  refine exit (thn_x (lp_x (blk_here (blk_n (thn_n (region (ops_y hH24 rfl rfl (yv_move rfl) ?_)))))))
                  refine ops_y hH24 rfl rfl (yv_add rfl rfl (by omega)) ?_
                  refine ops_y hH24 rfl rfl (yv_assign rfl) (ops_nil ?_)
                  refine lp_n (i + 1, Rs, v_5, lo_5, hi_5) (Sub.cons rfl (Sub.cons rfl (Sub.cons rfl (Sub.cons rfl (Sub.cons rfl (Sub.cons rfl (Sub.cons rfl (Sub.nil _)))))))) ?_ ?_
                  · exact ⟨hH24, by omega, hR.trans (Q.crs_all (by rw [hA]; omega) (by rw [hB]; omega))⟩
                  · first | (dsimp only; omega) | (show _ < _; omega)
            · skip
              refine cond_f rfl (decide_eq_false hc22) ?_
              refine exit (thn_x (lp_x (blk_here (blk_n (thn_n (region (ops_y hH21 rfl rfl (yv_move rfl) ?_)))))))
              refine ops_y hH21 rfl rfl (yv_add rfl rfl (by omega)) ?_
              refine ops_y hH21 rfl rfl (yv_assign rfl) (ops_nil ?_)
              refine lp_n (r + 1, Rs, v_5, lo_5, hi_5) (Sub.cons rfl (Sub.cons rfl (Sub.cons rfl (Sub.cons rfl (Sub.cons rfl (Sub.cons rfl (Sub.nil _))))))) ?_ ?_
              · exact ⟨hH21, by omega, hR.trans (Q.gA_all (by rw [hA]; omega))⟩
              · first | (dsimp only; omega) | (show _ < _; omega)
        · skip
          refine cond_f rfl (decide_eq_false hc19) ?_
          refine exit (thn_x (lp_x (blk_here (thn_n ?_))))
          have hH50 : Heap ([ow lo_5 hi_5 22 1 encV v_5 (Rs.map fun x => svV x.s), base w12] ++ Rs.map rowI) w17 := hH18
          have hH51 := Heap.joinV T.el100_encV hH50 hH13
          obtain ⟨xl, hxl⟩ := (show RowsV v_5 (Rs.map fun r => svV r.s) (Rs.map (·.l)) w17 from hH51.get (n := 0) rfl).sv
          subst hxl
          have hVl : (Vs.map (·.s)).length = n + 1 := by have h9 := congrArg List.length hV; rw [Q.allL_length] at h9; simpa using h9
          refine region (ops_y hH51 rfl rfl (yv_move rfl) (ops_y hH51 rfl rfl (yv_move rfl) ?_))
          refine op_lit (us := [(0, xl.1)]) T.el121_encV [xl] rfl (by decide) rfl (fun a ha => by simp [ha.ev (show ev _ (.tmp 64) = some _ from rfl)]) (fun w => by obtain ⟨_, _, _, e⟩ := (xl).2; rw [show [xl].flatMap encV = [(xl).1] from rfl, e]; kernel_rfl) hH51 (fun u52 lo54 hi55 w53 hH56 => ?_)
          refine op_append (n := 2) T.el121_encV rfl rfl rfl hH56 rfl (Heap.rdw T.el121_encV hH56 (n := 0) rfl) (by first | omega | (simp only [List.length_append, List.length_cons, List.length_nil]; omega)) (fun u57 lo59 hi60 w58 hH61 => ?_)
          refine ops_y hH61 rfl rfl (yv_assign rfl) (ops_nil (blk_n (thn_n (region (ops_y hH61 rfl rfl (yv_move rfl) ?_)))))
          refine ops_y hH61 rfl rfl (yv_add rfl rfl (by omega)) ?_
          refine ops_y hH61 rfl rfl (yv_assign rfl) (ops_nil ?_)
          have hH62 := (hH61.sub (List.Sublist.cons _ (List.Sublist.refl _)))
          have hH63 := Heap.totailW (L := [ow lo59 hi60 100 1 encV u57 ((Vs.map (·.s)) ++ [xl]), base w]) (Rs := Vs) hH62
          refine lp_n (n + 1, (Vs ++ [RvI.mk w12.heap.size w17.heap.size xl (Rs.map fun r => svV r.s) (Rs.map (·.l))]), u57, lo59, hi60) (Sub.cons rfl (Sub.cons rfl (Sub.cons rfl (Sub.cons rfl (Sub.nil _))))) ?_ ?_
          · exact ⟨(Heap.recast (n := 0) hH63 rfl ((by rw [List.map_append]; rfl))), by omega, (by rw [List.map_append, hV]; show _ ++ [(Rs.map (·.l))] = _; rw [hR, show r = n + 1 by omega]; rfl)⟩
          · first | (dsimp only; omega) | (show _ < _; omega)
    · skip
      refine cond_f rfl (decide_eq_false hc14) ?_
      refine exit (thn_x (lp_x (blk_here (thn_n (seq ?_)))))
      have hW0f := RowsW.tail T.el121_encV (u := v_3) (H := [ow lo_3 hi_3 100 1 encV v_3 (Vs.map (·.s)), base w]) (n := 0) (Rs := Vs) hH13 rfl
      rw [hV] at hW0f
      obtain ⟨SSf, TTf, hSSf, hWf⟩ : ∃ SS TT, SS.length = n + 1 ∧ RowsW v_3 SS TT (Q.allL n) w12 := ⟨_, _, by have h9 := hW0f.2.2.1; rw [Q.allL_length] at h9; exact h9, hW0f⟩
      have hb64 : Below w.heap.size w w12 := hH13.get (n := 1) rfl
      have rr65 : Rd encV 1 v_3 (Vs.map (·.s)) w12 := Heap.rdw T.el121_encV hH13 (n := 0) rfl
      have hH66 := Heap.start w12
      refine region (ops_y hH66 rfl rfl (yv_move rfl) (ops_y hH66 rfl rfl (yv_move rfl) ?_))
      refine ops_y hH66 rfl rfl (yv_index T.sl121 rfl rfl (hWf.1.now hH66 (n := 0) rfl).is (by omega)) ?_
      refine ops_y hH66 rfl rfl (yv_load T.one100 rfl (fun _ hw => Rd.at (hWf.1.now hw (n := 0) rfl) (i := (N : Int)) (by omega) (j := 0) rfl)) ?_
      refine op_fn rfl rfl rfl hH66 (c97 (m := N) (hWf.at (i := (N : Int)) (by omega) (by omega)) (by rw [Q.all_len (by omega) (by omega)]; have := Q.cnt8 N hN; omega) (fun x hx => by obtain ⟨t, h1, h2⟩ := Q.all_mem (by omega) hx; rw [← h2, Q.T.dep_length, h1]) (by omega)) (fun u69 w67 lo70 hi71 hH68 hv72 => ?_)
      have hb73 : Below w12.heap.size w12 w67 := hH68.get (n := 1) rfl
      obtain ⟨VA, RA, hA, hAp, hAs⟩ := hv72 hb73
      have hb74 : Below w12.heap.size w12 w67 := hH68.get (n := 1) rfl
      have rv75 := (hWf.at (i := (N : Int)) (by omega) (by omega)).below hb74
      have rv76 := hWf.below hb74
      have hb77 := below_trans hb64 hb74
      have hH78 := Heap.start w67
      refine ops_y hH78 rfl rfl (yv_assign rfl) (ops_nil (thn_n (ret ?_)))
      refine finA hb77 hH78 (fun w' hf => (res1 rfl (show RV _ _ _ (.tmp 2) _ from rfl))) (fun w' hf => ?_)
      exact ⟨VA, by rw [← Q.srt_uni (hAp.trans (Q.allL_perm n N (by omega))) hAs (Q.treesL_srt N)]; exact hA.now hf (n := 0) rfl⟩

end Go.Fip
