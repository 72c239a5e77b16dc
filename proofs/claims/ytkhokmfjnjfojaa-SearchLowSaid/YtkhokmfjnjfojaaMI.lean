/- Joined texts: Wy, Qu. -/
import Derived.Test.YtkhokmfjnjfojaaMH
set_option linter.unusedVariables false
set_option linter.unusedSimpArgs false
set_option linter.unusedSectionVars false
set_option linter.unnecessarySimpa false
namespace Go.Fip
open Go.Proofs Go.RowKit

theorem c9 {v : Value} {l : List Int} {a b c d : Int} {w : World} (h0 : Rd encI 1 v l w) (ha : 0 ≤ a ∧ a ≤ 255) (hb : 0 ≤ b ∧ b ≤ 255) (hc : 0 ≤ c ∧ c ≤ 255) (hd : 0 ≤ d ∧ d ≤ 255)  :
    Fn Try.prog 9 [v, (.int .u8 a), (.int .u8 b), (.int .u8 c), (.int .u8 d)].toArray w (fun u _ => u = .bool true) := by
  refine fn_of' (args := [v, (.int .u8 a), (.int .u8 b), (.int .u8 c), (.int .u8 d)]) Try.func9 rfl (ent Try.func9 (by kernel_rfl) rfl) rfl rfl (fun hH => ?_)
  refine seq (region (ops_y hH rfl rfl (yv_assign rfl) (ops_nil (thn_n (seq (seq ?_))))))
  by_cases hc1 : Q.ckW l = 0
  · skip
    have hc0 : Q.ckW l = 0 := ‹_›
    obtain ⟨hl12, hw⟩ := Q.ckW_w hc0
    refine region (ops_y hH rfl rfl (yv_move rfl) ?_)
    refine op_fnV rfl rfl rfl hH (c41 (h0.now hH (n := 0) rfl)) (fun w2 hH3 => ?_)
    refine ops_y hH3 rfl rfl (yv_castB (bnot_f (decide_eq_true hc1)) (yv_not rfl)) ?_
    refine ops_nil (thn_n ?_)
    refine cond_f rfl rfl ?_
    refine skip (thn_n (seq (region (ops_y hH3 rfl rfl (yv_move rfl) ?_))))
    refine op_fn rfl rfl rfl hH3 (c43 (h0.now hH3 (n := 0) rfl) (by omega) hc0) (fun u6 w4 lo7 hi8 hH5 hv9 => ?_)
    obtain ⟨p12, hu, -⟩ := hv9
    subst hu
    obtain ⟨TT10, hH11⟩ := Heap.tupRows hH5 (n := 0) rfl
    have hTl13 := (show RowsAt p12 TT10 (Q.tab l) _ from hH11.get (n := 0) rfl).2.1
    refine ops_y hH11 rfl rfl (yv_move rfl) (ops_y hH11 rfl rfl (yv_extract rfl rfl) (ops_y hH11 rfl rfl (yv_extract rfl rfl) (ops_y hH11 rfl rfl (yv_assign rfl) (ops_y hH11 rfl rfl (yv_assign rfl) (ops_nil (thn_n (seq (seq (region ?_)))))))))
    refine ops_y hH11 rfl rfl (yv_move rfl) ?_
    refine ops_y hH11 rfl rfl (yv_not rfl) ?_
    refine ops_nil (thn_n ?_)
    refine cond_f rfl rfl ?_
    refine skip (thn_n (seq ?_))
    have hn0 : (0 : Int) < (l.length : Int) + 1 := by omega
    have m1 := Int.emod_nonneg a (b := (l.length : Int) + 1) (by omega)
    have m2 := Int.emod_lt_of_pos a hn0
    have m3 := Int.emod_nonneg b (b := (l.length : Int) + 1) (by omega)
    have m4 := Int.emod_lt_of_pos b hn0
    have m5 := Int.emod_nonneg c (b := (l.length : Int) + 1) (by omega)
    have m6 := Int.emod_lt_of_pos c hn0
    have m7 := Int.emod_nonneg d (b := (l.length : Int) + 1) (by omega)
    have m8 := Int.emod_lt_of_pos d hn0
    refine region (ops_y hH11 rfl rfl (yv_move rfl) ?_)
    refine ops_y hH11 rfl rfl (yv_len T.sl30 rfl (h0.now hH11 (n := 1) rfl).is) ?_
    refine ops_y hH11 rfl rfl (yv_add rfl rfl (by omega)) ?_
    refine ops_y hH11 rfl rfl (yv_assign rfl) (ops_nil (thn_n (seq ?_)))
    refine region_draw (fun w' => Heap [⟨lo7, hi8, RowsAt p12 TT10 (Q.tab l)⟩, base w] w') T.mixed (fun w14 hr15 => ?_)
    have hH16 := hH11.redrawn hr15
    refine any_takes [0, 1, 2, 3, 4, 5, 6, 7, 8, 9, 10, 11, 12, 13, 14, 15] (by kernel_rfl) hH16 _ _ _ (by kernel_rfl) ?_
    refine qs_y rfl rfl (yv_move rfl) ?_
    refine qs_y rfl rfl (yv_conv Try.underlying5 Try.underlying3 rfl (wrap_i64 (by omega))) ?_
    refine qs_y rfl rfl (yv_move rfl) ?_
    refine qs_y rfl rfl (yv_rem rfl rfl (by omega) (by omega)) ?_
    refine qs_y rfl rfl (yv_move rfl) ?_
    refine qs_y rfl rfl (yv_conv Try.underlying5 Try.underlying3 rfl (wrap_i64 (by omega))) ?_
    refine qs_y rfl rfl (yv_move rfl) ?_
    refine qs_y rfl rfl (yv_rem rfl rfl (by omega) (by omega)) ?_
    refine qs_y rfl rfl (yv_move rfl) ?_
    refine qs_y rfl rfl (yv_conv Try.underlying5 Try.underlying3 rfl (wrap_i64 (by omega))) ?_
    refine qs_y rfl rfl (yv_move rfl) ?_
    refine qs_y rfl rfl (yv_rem rfl rfl (by omega) (by omega)) ?_
    refine qs_y rfl rfl (yv_move rfl) ?_
    refine qs_y rfl rfl (yv_conv Try.underlying5 Try.underlying3 rfl (wrap_i64 (by omega))) ?_
    refine qs_y rfl rfl (yv_move rfl) ?_
    refine qs_y rfl rfl (yv_rem rfl rfl (by omega) (by omega)) ?_
    refine qs_nil ?_
    refine any_all [16] (by kernel_rfl) rfl ?_
    refine ⟨⟨_, rfl, ?_⟩, trivial⟩
    · skip
      refine op_lit (us := [(0, (.int .i64 (a % ((l.length : Int) + 1)))), (1, (.int .i64 (b % ((l.length : Int) + 1)))), (2, (.int .i64 (c % ((l.length : Int) + 1)))), (3, (.int .i64 (d % ((l.length : Int) + 1))))]) T.el22_encI [a % ((l.length : Int) + 1), b % ((l.length : Int) + 1), c % ((l.length : Int) + 1), d % ((l.length : Int) + 1)] rfl (by decide) rfl (fun a ha => by simp [ha.ev (show ev _ (.tmp 34) = some _ from rfl), ha.ev (show ev _ (.tmp 38) = some _ from rfl), ha.ev (show ev _ (.tmp 42) = some _ from rfl), ha.ev (show ev _ (.tmp 46) = some _ from rfl)]) (fun w => by kernel_rfl) hH16 (fun u17 lo19 hi20 w18 hH21 => ?_)
      refine ops_nil ?_
      refine ⟨(hH21.sub (List.Sublist.cons _ (List.Sublist.refl _))), ?_⟩
      refine any_all [17] (by kernel_rfl) rfl ?_
      refine ⟨⟨_, rfl, ?_⟩, trivial⟩
      · skip
        refine op_fnV rfl rfl rfl hH21 (c48) (fun w22 hH23 => ?_)
        refine ops_nil ?_
        refine ⟨(hH23.sub (List.Sublist.cons _ (List.Sublist.refl _))), ?_⟩
        refine any_takes [18] (by kernel_rfl) (hH23.sub (List.Sublist.cons _ (List.Sublist.refl _))) _ _ _ (by kernel_rfl) ?_
        refine qs_y rfl rfl (yv_assign rfl) (qs_nil ?_)
        refine any_done (by kernel_rfl) ?_
        refine thn_n (seq (seq (region (ops_y hH23 rfl rfl (yv_assign rfl) (ops_nil (thn_n (block ?_)))))))
        refine loop (S := Nat × List Int × Value × Nat × Nat) (fun (i, o, v_14, lo_14, hi_14) => [(15, (.int .i64 (i : Int))), (14, v_14), (10, (.bool false)), (11, p12)]) (fun (i, o, v_14, lo_14, hi_14) w1 => Heap [ow lo_14 hi_14 3 1 encI v_14 o, ⟨lo7, hi8, RowsAt p12 TT10 (Q.tab l)⟩, base w] w1 ∧ i ≤ 4 ∧ 1 ≤ i ∧ Q.InsO (l.length : Int) i o) (fun (i, o, v_14, lo_14, hi_14) => 4 - i) (1, [a % ((l.length : Int) + 1), b % ((l.length : Int) + 1), c % ((l.length : Int) + 1), d % ((l.length : Int) + 1)], u17, lo19, hi20) (Sub.cons rfl (Sub.cons rfl (Sub.cons rfl (Sub.cons rfl (Sub.nil _))))) ?_ ?_
        · exact ⟨(Heap.recast (n := 0) hH23 rfl (rfl)), by omega, by omega, Q.InsO.start (by omega) (by omega) (by omega) (by omega)⟩
        · rintro ⟨i, o, v_14, lo_14, hi_14⟩ w24 ⟨hH25, hi4, hi1, hO⟩
          show Holds _ _ _ _ _ [(15, (.int .i64 (i : Int))), (14, v_14), (10, (.bool false)), (11, p12)] _ _
          have hol := hO.len
          refine seq (seq (region (ops_y hH25 rfl rfl (yv_move rfl) ?_)))
          refine ops_y hH25 rfl rfl (yv_lss rfl rfl) ?_
          refine ops_nil (thn_n ?_)
          by_cases hc26 : (i : Int) < 4
          · skip
            refine cond_t rfl (decide_eq_true hc26) ?_
            refine skip (thn_n (seq (block (seq (region (ops_y hH25 rfl rfl (yv_move rfl) (ops_y hH25 rfl rfl (yv_assign rfl) (ops_nil (thn_n ?_)))))))))
            refine block ?_
            refine loop (S := Nat × List Int × Value × Nat × Nat) (fun (k, o, v_14, lo_14, hi_14) => [(16, (.int .i64 (k : Int))), (14, v_14), (10, (.bool false)), (11, p12), (15, (.int .i64 (i : Int)))]) (fun (k, o, v_14, lo_14, hi_14) w1 => Heap [ow lo_14 hi_14 3 1 encI v_14 o, ⟨lo7, hi8, RowsAt p12 TT10 (Q.tab l)⟩, base w] w1 ∧ k ≤ i ∧ Q.InsI (l.length : Int) i k o) (fun (k, o, v_14, lo_14, hi_14) => k) (i, o, v_14, lo_14, hi_14) (Sub.cons rfl (Sub.cons rfl (Sub.cons rfl (Sub.cons rfl (Sub.cons rfl (Sub.nil _)))))) ?_ ?_
            · exact ⟨(Heap.recast (n := 0) hH25 rfl (rfl)), by omega, hO.into⟩
            · rintro ⟨k, o, v_14, lo_14, hi_14⟩ w27 ⟨hH28, hki, hI⟩
              show Holds _ _ _ _ _ [(16, (.int .i64 (k : Int))), (14, v_14), (10, (.bool false)), (11, p12), (15, (.int .i64 (i : Int)))] _ _
              have hol := hI.len
              have hk1 : 0 < k → nth o ((k : Int) - 1) = nth o ((k - 1 : Nat) : Int) := fun h => by rw [show (k : Int) - 1 = ((k - 1 : Nat) : Int) by omega]
              refine seq (seq ?_)
              refine region_draw (fun w' => Heap [ow lo_14 hi_14 3 1 encI v_14 o, ⟨lo7, hi8, RowsAt p12 TT10 (Q.tab l)⟩, base w] w') T.mixed (fun w29 hr30 => ?_)
              have hH31 := hH28.redrawn hr30
              refine any_takes [0, 1, 2] (by kernel_rfl) hH31 _ _ _ (by kernel_rfl) ?_
              refine qs_y rfl rfl (yv_move rfl) ?_
              refine qs_y rfl rfl (yv_gtr rfl rfl) ?_
              refine qs_y rfl rfl (yv_move rfl) (qs_nil ?_)
              by_cases hc32 : 0 < (k : Int)
              · skip
                refine any_takes [3, 4, 5, 6, 7, 8, 9, 10, 11, 12, 13] (by kernel_rfl) hH31 _ _ _ (by kernel_rfl) ?_
                refine qs_yes rfl rfl rfl (decide_eq_true hc32) rfl (yv_move rfl) ?_
                refine qs_yes rfl rfl rfl (decide_eq_true hc32) rfl (yv_move rfl) ?_
                refine qs_yes rfl rfl rfl (decide_eq_true hc32) rfl (yv_index T.sl22 rfl rfl (Heap.rdw T.el22_encI hH31 (n := 0) rfl).is (by omega)) ?_
                refine qs_yes rfl rfl rfl (decide_eq_true hc32) rfl (yv_load T.one3 rfl (fun _ hw => Rd.at (Heap.rdw T.el22_encI hw (n := 0) rfl) (i := (k : Int)) (by omega) (j := 0) rfl)) ?_
                refine qs_yes rfl rfl rfl (decide_eq_true hc32) rfl (yv_move rfl) ?_
                refine qs_yes rfl rfl rfl (decide_eq_true hc32) rfl (yv_move rfl) ?_
                refine qs_yes rfl rfl rfl (decide_eq_true hc32) rfl (yv_sub rfl rfl (by omega)) ?_
                refine qs_yes rfl rfl rfl (decide_eq_true hc32) rfl (yv_index T.sl22 rfl rfl (Heap.rdw T.el22_encI hH31 (n := 0) rfl).is (by omega)) ?_
                refine qs_yes rfl rfl rfl (decide_eq_true hc32) rfl (yv_load T.one3 rfl (fun _ hw => Rd.at (Heap.rdw T.el22_encI hw (n := 0) rfl) (i := (k : Int) - 1) (by omega) (j := 0) rfl)) ?_
                refine qs_yes rfl rfl rfl (decide_eq_true hc32) rfl (yv_lss rfl rfl) ?_
                refine qs_y rfl rfl (yv_pick_t rfl (decide_eq_true hc32) rfl) ?_
                refine qs_nil ?_
                refine any_done (by kernel_rfl) ?_
                refine thn_n ?_
                by_cases hc33 : (nth o (k : Int)) < (nth o ((k : Int) - 1))
                · skip
                  refine cond_t rfl (decide_eq_true hc33) ?_
                  refine skip (thn_n (seq (block ?_)))
                  have hsl : (o.set ((k : Int)).toNat (nth o ((k : Int) - 1))).length = o.length := List.length_set
                  refine region_drawY (fun w' => Heap [ow lo_14 hi_14 3 1 encI v_14 o, ⟨lo7, hi8, RowsAt p12 TT10 (Q.tab l)⟩, base w] w') [15, 17] T.mixed (fun w34 hr35 => ?_)
                  have hH36 := hH31.redrawn hr35
                  refine any_takesT [0, 1, 2, 3, 4, 5, 6, 7, 8, 10, 11, 12] (by kernel_rfl)  _ _ _ (by kernel_rfl) ?_
                  refine qs_y rfl rfl (yv_move rfl) (qs_y rfl rfl (yv_move rfl) (qs_y rfl rfl (yv_move rfl) (qs_y rfl rfl (yv_move rfl) ?_)))
                  refine qs_y rfl rfl (yv_sub rfl rfl (by omega)) ?_
                  refine qs_y rfl rfl (yv_move rfl) (qs_y rfl rfl (yv_move rfl) ?_)
                  refine qs_y rfl rfl (yv_sub rfl rfl (by omega)) ?_
                  refine qs_y rfl rfl (yv_index T.sl22 rfl rfl (Heap.rdw T.el22_encI hH36 (n := 0) rfl).is (by omega)) ?_
                  refine qs_y rfl rfl (yv_move rfl) (qs_y rfl rfl (yv_move rfl) ?_)
                  refine qs_y rfl rfl (yv_index T.sl22 rfl rfl (Heap.rdw T.el22_encI hH36 (n := 0) rfl).is (by omega)) ?_
                  refine qs_nil ?_
                  refine any_takesY [9, 13] (by kernel_rfl) hH36 _ _ _ (by kernel_rfl) ?_
                  refine qs_y rfl rfl (yv_load T.one3 rfl (fun _ hw => Rd.at (Heap.rdw T.el22_encI hw (n := 0) rfl) (i := (k : Int) - 1) (by omega) (j := 0) rfl)) ?_
                  refine qs_y rfl rfl (yv_load T.one3 rfl (fun _ hw => Rd.at (Heap.rdw T.el22_encI hw (n := 0) rfl) (i := (k : Int)) (by omega) (j := 0) rfl)) ?_
                  refine qs_nil ?_
                  refine any_takesT [14] (by kernel_rfl)  _ _ _ (by kernel_rfl) ?_
                  refine qs_y rfl rfl (yv_index T.sl22 rfl rfl (Heap.rdw T.el22_encI hH36 (n := 0) rfl).is (by omega)) ?_
                  refine qs_nil ?_
                  refine any_allY [15] (by kernel_rfl) rfl ?_
                  refine ⟨⟨_, rfl, ?_⟩, trivial⟩
                  · skip
                    refine op_setE (n := 0) (i := (k : Int)) (k := 0) (us := [(.int .i64 (nth o ((k : Int) - 1)))]) (z := nth o ((k : Int) - 1)) T.el22_encI rfl rfl hH36 rfl (by omega) T.sz3 rfl rfl rfl (Nat.le_of_ble_eq_true rfl) (fun w37 hH38 => ?_)
                    refine ops_nil ?_
                    refine ⟨(fun h => by cases h), ?_⟩
                    refine any_takesT [16] (by kernel_rfl)  _ _ _ (by kernel_rfl) ?_
                    refine qs_y rfl rfl (yv_index T.sl22 rfl rfl (Heap.rdw T.el22_encI hH38 (n := 0) rfl).is (by first | omega | (rw [List.length_set]; omega))) ?_
                    refine qs_nil ?_
                    refine any_allY [17] (by kernel_rfl) rfl ?_
                    refine ⟨⟨_, rfl, ?_⟩, trivial⟩
                    · skip
                      refine op_setE (n := 0) (i := (k : Int) - 1) (k := 0) (us := [(.int .i64 (nth o (k : Int)))]) (z := nth o (k : Int)) T.el22_encI rfl rfl hH38 rfl (by first | omega | (rw [List.length_set]; omega)) T.sz3 rfl rfl rfl (Nat.le_of_ble_eq_true rfl) (fun w39 hH40 => ?_)
                      refine ops_nil ?_
                      refine ⟨(fun h => by cases h), ?_⟩
                      refine any_doneY (by kernel_rfl) ?_
                      refine blk_n (thn_n (region (ops_y hH40 rfl rfl (yv_move rfl) ?_)))
                      refine ops_y hH40 rfl rfl (yv_sub rfl rfl (by omega)) ?_
                      refine ops_y hH40 rfl rfl (yv_assign rfl) (ops_nil ?_)
                      refine lp_n (k - 1, ((o.set (k : Int).toNat (nth o ((k : Int) - 1))).set ((k : Int) - 1).toNat (nth o (k : Int))), v_14, lo_14, hi_14) (Sub.cons (congrArg (fun z : Int => some (Value.int .i64 z)) (by omega)) (Sub.cons rfl (Sub.cons rfl (Sub.cons rfl (Sub.cons rfl (Sub.nil _)))))) ?_ ?_
                      · exact ⟨(Heap.recast (n := 0) hH40 rfl (rfl)), by omega, hI.step (by omega) hki (by omega) (by omega)⟩
                      · first | (dsimp only; omega) | (show _ < _; omega)
                · skip
                  refine cond_f rfl (decide_eq_false hc33) ?_
                  refine exit (thn_x (lp_x (blk_here (blk_n (thn_n (region (ops_y hH31 rfl rfl (yv_move rfl) ?_)))))))
                  refine ops_y hH31 rfl rfl (yv_add rfl rfl (by omega)) ?_
                  refine ops_y hH31 rfl rfl (yv_assign rfl) (ops_nil ?_)
                  refine lp_n (i + 1, o, v_14, lo_14, hi_14) (Sub.cons rfl (Sub.cons rfl (Sub.cons rfl (Sub.cons rfl (Sub.nil _))))) ?_ ?_
                  · exact ⟨(Heap.recast (n := 0) hH31 rfl (rfl)), by omega, by omega, hI.out hki (by first | exact .inl (by omega) | exact .inr (by omega))⟩
                  · first | (dsimp only; omega) | (show _ < _; omega)
              · skip
                refine any_takes [3, 4, 5, 6, 7, 8, 9, 10, 11, 12, 13] (by kernel_rfl) hH31 _ _ _ (by kernel_rfl) ?_
                refine qs_no rfl rfl rfl (decide_eq_false hc32) rfl ?_
                refine qs_no rfl rfl rfl (decide_eq_false hc32) rfl ?_
                refine qs_no rfl rfl rfl (decide_eq_false hc32) rfl ?_
                refine qs_no rfl rfl rfl (decide_eq_false hc32) rfl ?_
                refine qs_no rfl rfl rfl (decide_eq_false hc32) rfl ?_
                refine qs_no rfl rfl rfl (decide_eq_false hc32) rfl ?_
                refine qs_no rfl rfl rfl (decide_eq_false hc32) rfl ?_
                refine qs_no rfl rfl rfl (decide_eq_false hc32) rfl ?_
                refine qs_no rfl rfl rfl (decide_eq_false hc32) rfl ?_
                refine qs_no rfl rfl rfl (decide_eq_false hc32) rfl ?_
                refine qs_y rfl rfl (yv_pick_f rfl (decide_eq_false hc32) rfl) ?_
                refine qs_nil ?_
                refine any_done (by kernel_rfl) ?_
                refine thn_n ?_
                refine cond_f rfl rfl ?_
                refine exit (thn_x (lp_x (blk_here (blk_n (thn_n (region (ops_y hH31 rfl rfl (yv_move rfl) ?_)))))))
                refine ops_y hH31 rfl rfl (yv_add rfl rfl (by omega)) ?_
                refine ops_y hH31 rfl rfl (yv_assign rfl) (ops_nil ?_)
                refine lp_n (i + 1, o, v_14, lo_14, hi_14) (Sub.cons rfl (Sub.cons rfl (Sub.cons rfl (Sub.cons rfl (Sub.nil _))))) ?_ ?_
                · exact ⟨(Heap.recast (n := 0) hH31 rfl (rfl)), by omega, by omega, hI.out hki (by first | exact .inl (by omega) | exact .inr (by omega))⟩
                · first | (dsimp only; omega) | (show _ < _; omega)
          · skip
            refine cond_f rfl (decide_eq_false hc26) ?_
            refine exit (thn_x (lp_x (blk_here (thn_n (seq ?_)))))
            have hol := hO.len
            have q0 : 0 ≤ nth o 0 ∧ nth o 0 ≤ (l.length : Int) := hO.bd 0 (by decide)
            have q1 : 0 ≤ nth o 1 ∧ nth o 1 ≤ (l.length : Int) := hO.bd 1 (by decide)
            have q2 : 0 ≤ nth o 2 ∧ nth o 2 ≤ (l.length : Int) := hO.bd 2 (by decide)
            have q3 : 0 ≤ nth o 3 ∧ nth o 3 ≤ (l.length : Int) := hO.bd 3 (by decide)
            have s01 : nth o 0 ≤ nth o 1 := hO.srt 0 1 (by decide) (by omega)
            have s12 : nth o 1 ≤ nth o 2 := hO.srt 1 2 (by decide) (by omega)
            have s23 : nth o 2 ≤ nth o 3 := hO.srt 2 3 (by decide) (by omega)
            have hcr := Q.crossed hw (a := nth o 0) (b := nth o 1) (c := nth o 2) (d := nth o 3) (by omega) s01 s12 s23 (by omega)
            have b02 := Q.btw_bd hw (by omega) (a := nth o 0) (b := nth o 2) (by omega) (by omega) (by omega)
            have b13 := Q.btw_bd hw (by omega) (a := nth o 1) (b := nth o 3) (by omega) (by omega) (by omega)
            have b03 := Q.btw_bd hw (by omega) (a := nth o 0) (b := nth o 3) (by omega) (by omega) (by omega)
            have b12 := Q.btw_bd hw (by omega) (a := nth o 1) (b := nth o 2) (by omega) (by omega) (by omega)
            have htl := Q.tab_length (l := l)
            refine region_draw (fun w' => Heap [ow lo_14 hi_14 3 1 encI v_14 o, ⟨lo7, hi8, RowsAt p12 TT10 (Q.tab l)⟩, base w] w') T.mixed (fun w41 hr42 => ?_)
            have hH43 := hH25.redrawn hr42
            refine any_takes [0, 1, 2, 3, 4, 5, 6, 8, 9, 10, 11, 12, 13, 14, 17, 18, 19, 20, 21, 22, 23, 25, 26, 27, 28, 29, 30, 31] (by kernel_rfl) hH43 _ _ _ (by kernel_rfl) ?_
            refine qs_y rfl rfl (yv_move rfl) (qs_y rfl rfl (yv_move rfl) ?_)
            refine qs_y rfl rfl (yv_index T.sl22 rfl rfl (Heap.rdw T.el22_encI hH43 (n := 0) rfl).is (by omega)) ?_
            refine qs_y rfl rfl (yv_load T.one3 rfl (fun _ hw => Rd.at (Heap.rdw T.el22_encI hw (n := 0) rfl) (i := 0) (by omega) (j := 0) rfl)) ?_
            refine qs_y rfl rfl (yv_move rfl) ?_
            refine qs_y rfl rfl (yv_index T.sl22 rfl rfl (Heap.rdw T.el22_encI hH43 (n := 0) rfl).is (by omega)) ?_
            refine qs_y rfl rfl (yv_load T.one3 rfl (fun _ hw => Rd.at (Heap.rdw T.el22_encI hw (n := 0) rfl) (i := 2) (by omega) (j := 0) rfl)) ?_
            refine qs_y rfl rfl (yv_move rfl) (qs_y rfl rfl (yv_move rfl) ?_)
            refine qs_y rfl rfl (yv_index T.sl22 rfl rfl (Heap.rdw T.el22_encI hH43 (n := 0) rfl).is (by omega)) ?_
            refine qs_y rfl rfl (yv_load T.one3 rfl (fun _ hw => Rd.at (Heap.rdw T.el22_encI hw (n := 0) rfl) (i := 1) (by omega) (j := 0) rfl)) ?_
            refine qs_y rfl rfl (yv_move rfl) ?_
            refine qs_y rfl rfl (yv_index T.sl22 rfl rfl (Heap.rdw T.el22_encI hH43 (n := 0) rfl).is (by omega)) ?_
            refine qs_y rfl rfl (yv_load T.one3 rfl (fun _ hw => Rd.at (Heap.rdw T.el22_encI hw (n := 0) rfl) (i := 3) (by omega) (j := 0) rfl)) ?_
            refine qs_y rfl rfl (yv_move rfl) (qs_y rfl rfl (yv_move rfl) ?_)
            refine qs_y rfl rfl (yv_index T.sl22 rfl rfl (Heap.rdw T.el22_encI hH43 (n := 0) rfl).is (by omega)) ?_
            refine qs_y rfl rfl (yv_load T.one3 rfl (fun _ hw => Rd.at (Heap.rdw T.el22_encI hw (n := 0) rfl) (i := 0) (by omega) (j := 0) rfl)) ?_
            refine qs_y rfl rfl (yv_move rfl) ?_
            refine qs_y rfl rfl (yv_index T.sl22 rfl rfl (Heap.rdw T.el22_encI hH43 (n := 0) rfl).is (by omega)) ?_
            refine qs_y rfl rfl (yv_load T.one3 rfl (fun _ hw => Rd.at (Heap.rdw T.el22_encI hw (n := 0) rfl) (i := 3) (by omega) (j := 0) rfl)) ?_
            refine qs_y rfl rfl (yv_move rfl) (qs_y rfl rfl (yv_move rfl) ?_)
            refine qs_y rfl rfl (yv_index T.sl22 rfl rfl (Heap.rdw T.el22_encI hH43 (n := 0) rfl).is (by omega)) ?_
            refine qs_y rfl rfl (yv_load T.one3 rfl (fun _ hw => Rd.at (Heap.rdw T.el22_encI hw (n := 0) rfl) (i := 1) (by omega) (j := 0) rfl)) ?_
            refine qs_y rfl rfl (yv_move rfl) ?_
            refine qs_y rfl rfl (yv_index T.sl22 rfl rfl (Heap.rdw T.el22_encI hH43 (n := 0) rfl).is (by omega)) ?_
            refine qs_y rfl rfl (yv_load T.one3 rfl (fun _ hw => Rd.at (Heap.rdw T.el22_encI hw (n := 0) rfl) (i := 2) (by omega) (j := 0) rfl)) ?_
            refine qs_nil ?_
            refine any_all [7] (by kernel_rfl) rfl ?_
            refine ⟨⟨_, rfl, ?_⟩, trivial⟩
            · skip
              refine op_fnV rfl rfl rfl hH43 (c49 ((show RowsAt p12 TT10 (Q.tab l) _ from hH43.get (n := 1) rfl)) (by omega) (by omega) (fun hab => Q.tab_shaped.at (by omega) (by omega) hab)) (fun w44 hH45 => ?_)
              refine ops_nil ?_
              refine ⟨hH45, ?_⟩
              refine any_all [15] (by kernel_rfl) rfl ?_
              refine ⟨⟨_, rfl, ?_⟩, trivial⟩
              · skip
                refine op_fnV rfl rfl rfl hH45 (c49 ((show RowsAt p12 TT10 (Q.tab l) _ from hH45.get (n := 1) rfl)) (by omega) (by omega) (fun hab => Q.tab_shaped.at (by omega) (by omega) hab)) (fun w46 hH47 => ?_)
                refine ops_nil ?_
                refine ⟨hH47, ?_⟩
                refine any_takes [16] (by kernel_rfl) hH47 _ _ _ (by kernel_rfl) ?_
                refine qs_y rfl rfl (yv_add rfl rfl (by omega)) ?_
                refine qs_nil ?_
                refine any_all [24] (by kernel_rfl) rfl ?_
                refine ⟨⟨_, rfl, ?_⟩, trivial⟩
                · skip
                  refine op_fnV rfl rfl rfl hH47 (c49 ((show RowsAt p12 TT10 (Q.tab l) _ from hH47.get (n := 1) rfl)) (by omega) (by omega) (fun hab => Q.tab_shaped.at (by omega) (by omega) hab)) (fun w48 hH49 => ?_)
                  refine ops_nil ?_
                  refine ⟨hH49, ?_⟩
                  refine any_all [32] (by kernel_rfl) rfl ?_
                  refine ⟨⟨_, rfl, ?_⟩, trivial⟩
                  · skip
                    refine op_fnV rfl rfl rfl hH49 (c49 ((show RowsAt p12 TT10 (Q.tab l) _ from hH49.get (n := 1) rfl)) (by omega) (by omega) (fun hab => Q.tab_shaped.at (by omega) (by omega) hab)) (fun w50 hH51 => ?_)
                    refine ops_nil ?_
                    refine ⟨hH51, ?_⟩
                    refine any_takes [33, 34, 35] (by kernel_rfl) hH51 _ _ _ (by kernel_rfl) ?_
                    refine qs_y rfl rfl (yv_add rfl rfl (by omega)) ?_
                    refine qs_y rfl rfl (yv_leq rfl rfl) ?_
                    refine qs_y rfl rfl (yv_move rfl) (qs_nil ?_)
                    have hc52 : ((Q.btw (Q.tab l) (nth o 0) (nth o 2)) + (Q.btw (Q.tab l) (nth o 1) (nth o 3))) ≤ ((Q.btw (Q.tab l) (nth o 0) (nth o 3)) + (Q.btw (Q.tab l) (nth o 1) (nth o 2))) := hcr
                    refine any_all [36] (by kernel_rfl) rfl ?_
                    refine ⟨⟨_, rfl, ?_⟩, trivial⟩
                    · skip
                      refine guard_yes rfl rfl (decide_eq_true hc52) ?_
                      refine op_fnV rfl rfl rfl hH51 (c16) (fun w53 hH54 => ?_)
                      refine ops_nil ?_
                      refine ⟨hH54, ?_⟩
                      refine any_takes [37, 38] (by kernel_rfl) hH54 _ _ _ (by kernel_rfl) ?_
                      refine qs_y rfl rfl (yv_pick_t rfl (decide_eq_true hc52) rfl) ?_
                      refine qs_y rfl rfl (yv_assign rfl) (qs_nil ?_)
                      refine any_done (by kernel_rfl) ?_
                      refine thn_n (ret ?_)
                      have hH55 := (hH54.sub (List.Sublist.cons _ (List.Sublist.cons _ (List.Sublist.refl _))))
                      refine fin hH55 (fun w' hf => (res1 rfl (show RV _ _ _ (.tmp 10) _ from rfl))) (fun w' hf => ?_)
                      rfl
  · skip
    have hcn : ¬ Q.ckW l = 0 := ‹_›
    refine region (ops_y hH rfl rfl (yv_move rfl) ?_)
    refine op_fnV rfl rfl rfl hH (c41 (h0.now hH (n := 0) rfl)) (fun w56 hH57 => ?_)
    refine ops_y hH57 rfl rfl (yv_castB (bnot_t (decide_eq_false hc1)) (yv_not rfl)) ?_
    refine ops_nil (thn_n ?_)
    refine cond_t rfl rfl ?_
    refine seq (region ?_)
    refine op_fnV rfl rfl rfl hH57 (c16) (fun w58 hH59 => ?_)
    refine ops_y hH59 rfl rfl (yv_assign rfl) (ops_nil (thn_n (ret (thn_r ?_))))
    refine fin hH59 (fun w' hf => (res1 rfl (show RV _ _ _ (.tmp 10) _ from rfl))) (fun w' hf => ?_)
    rfl

theorem c11 {a : Int} {w : World} (ha : 0 ≤ a ∧ a ≤ 255)  :
    Fn Try.prog 11 [(.int .u8 a)].toArray w (fun u _ => u = .bool true) := by
  refine fn_of' (args := [(.int .u8 a)]) Try.func11 rfl (ent Try.func11 (by kernel_rfl) rfl) rfl rfl (fun hH => ?_)
  obtain ⟨n, hn⟩ : ∃ n : Nat, (n : Int) = 1 + a % 12 := ⟨(1 + a % 12).toNat, by omega⟩
  have hn1 : 1 ≤ n ∧ n ≤ 12 := by omega
  have hsz := Q.ckW_zero hn1.1 hn1.2
  refine seq (region (ops_y hH rfl rfl (yv_assign rfl) (ops_nil (thn_n (seq (region (ops_y hH rfl rfl (yv_move rfl) ?_)))))))
  refine ops_y hH rfl rfl (yv_conv Try.underlying5 Try.underlying3 rfl (wrap_i64 (by omega))) ?_
  refine ops_y hH rfl rfl (yv_rem rfl rfl (by omega) (by omega)) ?_
  refine ops_y hH rfl rfl (yv_cast (show _ = (n : Int) by omega) (yv_add rfl rfl (by omega))) ?_
  refine ops_y hH rfl rfl (yv_assign rfl) (ops_nil (thn_n (seq (region ?_))))
  refine op_lit (us := [(0, (.int .i64 1))]) T.el30_encI [1] rfl (by decide) rfl (fun a ha => by simp [ha.ev (show ev _ (.const (.int .i64 1)) = some _ from rfl)]) (fun w => by kernel_rfl) hH (fun u1 lo3 hi4 w2 hH5 => ?_)
  refine op_fnV rfl rfl rfl hH5 (c52) (fun w6 hH7 => ?_)
  refine ops_y hH7 rfl rfl (yv_assign rfl) (ops_nil (thn_n (seq (seq (region (ops_y hH7 rfl rfl (yv_assign rfl) (ops_nil (thn_n (block ?_)))))))))
  refine loop (S := Nat × Value × Nat × Nat) (fun (i, v_4, lo_4, hi_4) => [(5, (.int .i64 (i : Int))), (4, v_4), (3, (.int .i64 (n : Int)))]) (fun (i, v_4, lo_4, hi_4) w1 => Heap [ow lo_4 hi_4 2 1 encI v_4 (Q.cnts i), base w] w1 ∧ 1 ≤ i ∧ i ≤ n + 1) (fun (i, v_4, lo_4, hi_4) => n + 1 - i) (1, u1, lo3, hi4) (Sub.cons rfl (Sub.cons rfl (Sub.cons rfl (Sub.nil _)))) ?_ ?_
  · exact ⟨(Heap.recast (n := 0) hH7 rfl (rfl)), by omega, by omega⟩
  · rintro ⟨i, v_4, lo_4, hi_4⟩ w8 ⟨hH9, hi1, hin⟩
    show Holds _ _ _ _ _ [(5, (.int .i64 (i : Int))), (4, v_4), (3, (.int .i64 (n : Int)))] _ _
    have hcl := Q.cnts_length (k := i)
    refine seq (seq (region (ops_y hH9 rfl rfl (yv_move rfl) (ops_y hH9 rfl rfl (yv_move rfl) ?_))))
    refine ops_y hH9 rfl rfl (yv_leq rfl rfl) ?_
    refine ops_nil (thn_n ?_)
    by_cases hc10 : (i : Int) ≤ (n : Int)
    · skip
      refine cond_t rfl (decide_eq_true hc10) ?_
      refine skip (thn_n (seq (block (seq ?_))))
      have hco := Q.count_ok (k := i) hi1 (by omega)
      have hcb := Q.cnt_bd i (by omega)
      refine region (ops_y hH9 rfl rfl (yv_move rfl) ?_)
      refine op_fnV rfl rfl rfl hH9 ((by have h := c35 (n := (i : Int)) (w := w8); simp only [hco] at h; exact h)) (fun w11 hH12 => ?_)
      refine ops_y hH12 rfl rfl (yv_move rfl) (ops_y hH12 rfl rfl (yv_extract rfl rfl) (ops_y hH12 rfl rfl (yv_extract rfl rfl) (ops_y hH12 rfl rfl (yv_assign rfl) (ops_y hH12 rfl rfl (yv_assign rfl) (ops_nil (thn_n (seq (seq (region ?_)))))))))
      refine ops_y hH12 rfl rfl (yv_move rfl) ?_
      refine ops_y hH12 rfl rfl (yv_castB rfl (yv_neq rfl rfl)) ?_
      refine ops_y hH12 rfl rfl (yv_move rfl) (guard_yes rfl rfl rfl (ops_y hH12 rfl rfl (yv_move rfl) (guard_yes rfl rfl rfl ?_)))
      refine ops_y hH12 rfl rfl (yv_lss rfl rfl) ?_
      refine ops_y hH12 rfl rfl (yv_pick_f rfl rfl rfl) ?_
      refine ops_y hH12 rfl rfl (yv_move rfl) ?_
      by_cases hc13 : (Q.cnt i : Int) < 1
      · skip
        refine guard_no rfl rfl (decide_eq_true hc13) rfl ?_
        refine guard_no rfl rfl (decide_eq_true hc13) rfl ?_
        refine ops_y hH12 rfl rfl (yv_pick_t rfl (decide_eq_true hc13) rfl) ?_
        refine ops_nil (thn_n ?_)
        refine cond_t rfl rfl ?_
        refine seq (region (ops_y hH12 rfl rfl (yv_assign rfl) (ops_nil (thn_n (ret (thn_r (blk_r (thn_r (lp_r ?_)))))))))
        refine blk_r (thn_r ?_)
        have hH14 := (hH12.sub (List.Sublist.cons _ (List.Sublist.refl _)))
        refine fin hH14 (fun w' hf => (res1 rfl (show RV _ _ _ (.tmp 2) _ from rfl))) (fun w' hf => ?_)
        first | rfl | (exfalso; omega)
      · skip
        refine guard_yes rfl rfl (decide_eq_false hc13) ?_
        refine ops_y hH12 rfl rfl (yv_move rfl) ?_
        refine guard_yes rfl rfl (decide_eq_false hc13) ?_
        refine ops_y hH12 rfl rfl (yv_gtr rfl rfl) ?_
        refine ops_y hH12 rfl rfl (yv_pick_f rfl (decide_eq_false hc13) rfl) ?_
        refine ops_nil (thn_n ?_)
        by_cases hc15 : 208012 < (Q.cnt i : Int)
        · skip
          refine cond_t rfl (decide_eq_true hc15) ?_
          refine seq (region (ops_y hH12 rfl rfl (yv_assign rfl) (ops_nil (thn_n (ret (thn_r (blk_r (thn_r (lp_r ?_)))))))))
          refine blk_r (thn_r ?_)
          have hH16 := (hH12.sub (List.Sublist.cons _ (List.Sublist.refl _)))
          refine fin hH16 (fun w' hf => (res1 rfl (show RV _ _ _ (.tmp 2) _ from rfl))) (fun w' hf => ?_)
          first | rfl | (exfalso; omega)
        · skip
          refine cond_f rfl (decide_eq_false hc15) ?_
          refine skip (thn_n (seq (region (ops_y hH12 rfl rfl (yv_assign rfl) (ops_nil (thn_n (seq (seq (region ?_)))))))))
          refine ops_y hH12 rfl rfl (yv_assign rfl) (ops_nil (thn_n (block ?_)))
          refine loop (S := Nat) (fun r => [(8, (.int .i64 (Q.sumTo i r : Int))), (9, (.int .i64 (r : Int))), (3, (.int .i64 (n : Int))), (4, v_4), (5, (.int .i64 (i : Int))), (6, (.int .i64 (Q.cnt i : Int)))]) (fun r w1 => Heap [ow lo_4 hi_4 2 1 encI v_4 (Q.cnts i), base w] w1 ∧ r ≤ i) (fun r => i - r) (0) (Sub.cons rfl (Sub.cons rfl (Sub.cons rfl (Sub.cons rfl (Sub.cons rfl (Sub.cons rfl (Sub.nil _))))))) ?_ ?_
          · exact ⟨hH12, by omega⟩
          · rintro r w17 ⟨hH18, hr⟩
            show Holds _ _ _ _ _ [(8, (.int .i64 (Q.sumTo i r : Int))), (9, (.int .i64 (r : Int))), (3, (.int .i64 (n : Int))), (4, v_4), (5, (.int .i64 (i : Int))), (6, (.int .i64 (Q.cnt i : Int)))] _ _
            refine seq (seq (region (ops_y hH18 rfl rfl (yv_move rfl) (ops_y hH18 rfl rfl (yv_move rfl) ?_))))
            refine ops_y hH18 rfl rfl (yv_lss rfl rfl) ?_
            refine ops_nil (thn_n ?_)
            by_cases hc19 : (r : Int) < (i : Int)
            · skip
              refine cond_t rfl (decide_eq_true hc19) ?_
              refine skip (thn_n (seq (block ?_)))
              have hx1 := Q.nth_cnts (k := i) (j := r) (by omega)
              have hx2 : nth (Q.cnts i) ((i : Int) - 1 - (r : Int)) = (Q.cnt (i - 1 - r) : Int) := by rw [show (i : Int) - 1 - (r : Int) = ((i - 1 - r : Nat) : Int) by omega]; exact Q.nth_cnts (by omega)
              have hc1 := Q.cnt_bd r (by omega)
              have hc2 := Q.cnt_bd (i - 1 - r) (by omega)
              have hs := Q.sumTo_bd i (by omega) (r + 1) (by omega)
              rw [Q.sumTo_succ] at hs
              have hmu : (Q.cnt r : Int) * (Q.cnt (i - 1 - r) : Int) = ((Q.cnt r * Q.cnt (i - 1 - r) : Nat) : Int) := (Int.natCast_mul _ _).symm
              refine region_draw (fun w' => Heap [ow lo_4 hi_4 2 1 encI v_4 (Q.cnts i), base w] w') T.mixed (fun w20 hr21 => ?_)
              have hH22 := hH18.redrawn hr21
              refine any_takes [0, 1, 2, 3, 4, 5, 6, 7, 8, 9, 10, 11, 12, 13, 14] (by kernel_rfl) hH22 _ _ _ (by kernel_rfl) ?_
              refine qs_y rfl rfl (yv_move rfl) (qs_y rfl rfl (yv_move rfl) (qs_y rfl rfl (yv_move rfl) ?_))
              refine qs_y rfl rfl (yv_index T.sl30 rfl rfl (Heap.rdw T.el30_encI hH22 (n := 0) rfl).is (by omega)) ?_
              refine qs_y rfl rfl (yv_load T.one2 rfl (fun _ hw => Rd.at (Heap.rdw T.el30_encI hw (n := 0) rfl) (i := (r : Int)) (by omega) (j := 0) rfl)) ?_
              refine qs_y rfl rfl (yv_move rfl) (qs_y rfl rfl (yv_move rfl) ?_)
              refine qs_y rfl rfl (yv_sub rfl rfl (by omega)) ?_
              refine qs_y rfl rfl (yv_move rfl) ?_
              refine qs_y rfl rfl (yv_sub rfl rfl (by omega)) ?_
              refine qs_y rfl rfl (yv_index T.sl30 rfl rfl (Heap.rdw T.el30_encI hH22 (n := 0) rfl).is (by omega)) ?_
              refine qs_y rfl rfl (yv_load T.one2 rfl (fun _ hw => Rd.at (Heap.rdw T.el30_encI hw (n := 0) rfl) (i := ((i : Int) - 1) - (r : Int)) (by omega) (j := 0) rfl)) ?_
              refine qs_y rfl rfl (yv_mul rfl rfl (by rw [hx1, hx2, hmu]; omega)) ?_
              refine qs_y rfl rfl (yv_add rfl rfl (by rw [hx1, hx2, hmu]; omega)) ?_
              refine qs_y rfl rfl (yv_assign rfl) (qs_nil ?_)
              refine any_done (by kernel_rfl) ?_
              refine blk_n (thn_n (region (ops_y hH22 rfl rfl (yv_move rfl) ?_)))
              refine ops_y hH22 rfl rfl (yv_add rfl rfl (by omega)) ?_
              refine ops_y hH22 rfl rfl (yv_assign rfl) (ops_nil ?_)
              refine lp_n (r + 1) (Sub.cons (congrArg (fun z : Int => some (Value.int .i64 z)) (by rw [hx1, hx2, Q.sumTo_succ, Int.natCast_add, Int.natCast_mul])) (Sub.cons rfl (Sub.cons rfl (Sub.cons rfl (Sub.cons rfl (Sub.cons rfl (Sub.nil _))))))) ?_ ?_
              · exact ⟨hH22, by omega⟩
              · first | (dsimp only; omega) | (show _ < _; omega)
            · skip
              refine cond_f rfl (decide_eq_false hc19) ?_
              refine exit (thn_x (lp_x (blk_here (thn_n (seq (seq ?_))))))
              have hst : Q.sumTo i r = Q.cnt i := by rw [show r = i by omega]; exact Q.sumTo_all hi1 (by omega)
              refine region (ops_y hH18 rfl rfl (yv_move rfl) (ops_y hH18 rfl rfl (yv_move rfl) ?_))
              refine ops_y hH18 rfl rfl (yv_neq rfl rfl) ?_
              refine ops_nil (thn_n ?_)
              have hc23 : ¬ (¬ ((Q.cnt i : Int) = (Q.sumTo i r : Int))) := by rw [hst]; omega
              refine cond_f rfl (not_decide_f hc23) ?_
              refine skip (thn_n (region (ops_y hH18 rfl rfl (yv_move rfl) (ops_y hH18 rfl rfl (yv_move rfl) ?_))))
              refine op_lit (us := [(0, (.int .i64 (Q.cnt i : Int)))]) T.el30_encI [(Q.cnt i : Int)] rfl (by decide) rfl (fun a ha => by simp [ha.ev (show ev _ (.tmp 64) = some _ from rfl)]) (fun w => by kernel_rfl) hH18 (fun u24 lo26 hi27 w25 hH28 => ?_)
              refine op_append (n := 1) T.el30_encI rfl rfl rfl hH28 rfl (Heap.rdw T.el30_encI hH28 (n := 0) rfl) (by first | omega | (simp only [List.length_append, List.length_cons, List.length_nil]; omega)) (fun u29 lo31 hi32 w30 hH33 => ?_)
              refine ops_y hH33 rfl rfl (yv_assign rfl) (ops_nil (blk_n (thn_n (region (ops_y hH33 rfl rfl (yv_move rfl) ?_)))))
              refine ops_y hH33 rfl rfl (yv_add rfl rfl (by omega)) ?_
              refine ops_y hH33 rfl rfl (yv_assign rfl) (ops_nil ?_)
              have hH34 := (hH33.sub (List.Sublist.cons _ (List.Sublist.refl _)))
              refine lp_n (i + 1, u29, lo31, hi32) (Sub.cons rfl (Sub.cons rfl (Sub.cons rfl (Sub.nil _)))) ?_ ?_
              · exact ⟨(Heap.recast (n := 0) hH34 rfl (Q.cnts_succ)), by omega, by omega⟩
              · first | (dsimp only; omega) | (show _ < _; omega)
    · skip
      refine cond_f rfl (decide_eq_false hc10) ?_
      refine exit (thn_x (lp_x (blk_here (thn_n (seq (region (ops_y hH9 rfl rfl (yv_move rfl) ?_)))))))
      refine op_make T.el30_encI (0 : Int) T.z30_encI rfl rfl rfl hH9 (by omega) (by omega) (fun u35 lo37 hi38 w36 hH39 => ?_)
      refine ops_y hH39 rfl rfl (yv_assign rfl) (ops_nil (thn_n (seq ?_)))
      have hmz := Q.many_zero hn1.1 hn1.2
      obtain ⟨hra, hrl⟩ := Q.roots_all (n := n) (b := (n : Int) - 1) hn1.1 hn1.2 rfl
      have hrep : List.replicate ((n : Int)).toNat (0 : Int) = List.replicate n 0 := by rw [Int.toNat_natCast]
      have hin2 : i = n + 1 := by omega
      have hx9 : nth (Q.cnts i) (n : Int) = (Q.cnt n : Int) := by rw [hin2]; exact Q.nth_cnts (by omega)
      have hcl9 := Q.cnts_length (k := i)
      have hrl9 : (List.replicate ((n : Int)).toNat (0 : Int)).length ≤ 1000000 := by rw [List.length_replicate]; omega
      refine region (ops_y hH39 rfl rfl (yv_move rfl) ?_)
      refine op_fnV rfl rfl rfl hH39 ((by have h := c29 (Heap.rdw T.el30_encI hH39 (n := 0) rfl) hrl9 (w := w36); simp only [hrep, hmz] at h; exact h)) (fun w40 hH41 => ?_)
      refine ops_y hH41 rfl rfl (yv_move rfl) (ops_y hH41 rfl rfl (yv_extract rfl rfl) (ops_y hH41 rfl rfl (yv_extract rfl rfl) (ops_y hH41 rfl rfl (yv_assign rfl) (ops_y hH41 rfl rfl (yv_assign rfl) (ops_nil (thn_n (seq (region (ops_y hH41 rfl rfl (yv_move rfl) ?_)))))))))
      refine ops_y hH41 rfl rfl (yv_move rfl) ?_
      refine ops_y hH41 rfl rfl (yv_sub rfl rfl (by omega)) ?_
      refine op_fn rfl rfl rfl hH41 ((by have h := c47 (Heap.rdw T.el30_encI hH41 (n := 0) rfl) hrl9 (a := 0) (b := (n : Int) - 1) (w := w40); simp only [hrep, hra] at h; exact h)) (fun u44 w42 lo45 hi46 hH43 hv47 => ?_)
      obtain ⟨p49, hu, -⟩ := hv47
      subst hu
      have hH48 := Heap.tup2 hH43 (n := 0) rfl
      refine ops_y hH48 rfl rfl (yv_move rfl) (ops_y hH48 rfl rfl (yv_extract rfl rfl) (ops_y hH48 rfl rfl (yv_extract rfl rfl) (ops_y hH48 rfl rfl (yv_assign rfl) (ops_y hH48 rfl rfl (yv_assign rfl) (ops_nil (thn_n (seq (region (ops_y hH48 rfl rfl (yv_move rfl) ?_)))))))))
      refine ops_y hH48 rfl rfl (yv_castB rfl (yv_eql rfl rfl)) ?_
      refine ops_y hH48 rfl rfl (yv_move rfl) (guard_yes rfl rfl rfl (ops_y hH48 rfl rfl (yv_move rfl) (guard_yes rfl rfl rfl (ops_y hH48 rfl rfl (yv_move rfl) (guard_yes rfl rfl rfl (ops_y hH48 rfl rfl (yv_move rfl) (guard_yes rfl rfl rfl ?_)))))))
      refine ops_y hH48 rfl rfl (yv_index T.sl30 rfl rfl (Heap.rdw T.el30_encI hH48 (n := 2) rfl).is (by omega)) ?_
      refine guard_yes rfl rfl rfl ?_
      refine ops_y hH48 rfl rfl (yv_load T.one2 rfl (fun _ hw => Rd.at (Heap.rdw T.el30_encI hw (n := 2) rfl) (i := (n : Int)) (by omega) (j := 0) rfl)) ?_
      refine guard_yes rfl rfl rfl ?_
      refine ops_y hH48 rfl rfl (yv_eql rfl rfl) ?_
      refine ops_y hH48 rfl rfl (yv_pick_t rfl rfl rfl) ?_
      refine ops_y hH48 rfl rfl (yv_move rfl) ?_
      by_cases hc50 : (Q.cnt n : Int) = (nth (Q.cnts i) (n : Int))
      · skip
        refine guard_yes rfl rfl (decide_eq_true hc50) ?_
        refine ops_y hH48 rfl rfl (yv_move rfl) ?_
        refine guard_yes rfl rfl (decide_eq_true hc50) ?_
        refine ops_y hH48 rfl rfl (yv_castB rfl (yv_eql rfl rfl)) ?_
        refine ops_y hH48 rfl rfl (yv_pick_t rfl (decide_eq_true hc50) rfl) ?_
        refine ops_y hH48 rfl rfl (yv_move rfl) (guard_yes rfl rfl rfl (ops_y hH48 rfl rfl (yv_move rfl) (guard_yes rfl rfl rfl ?_)))
        refine ops_y hH48 rfl rfl (yv_len T.sl22 rfl (Heap.rdw T.el22_encI hH48 (n := 0) rfl).is) ?_
        refine guard_yes rfl rfl rfl (ops_y hH48 rfl rfl (yv_move rfl) (guard_yes rfl rfl rfl ?_))
        refine ops_y hH48 rfl rfl (yv_eql rfl rfl) ?_
        refine ops_y hH48 rfl rfl (yv_pick_t rfl rfl rfl) ?_
        refine ops_y hH48 rfl rfl (yv_move rfl) ?_
        by_cases hc51 : ((Q.rootsI (List.replicate n 0) 0 n).length : Int) = (n : Int)
        · skip
          refine guard_yes rfl rfl (decide_eq_true hc51) ?_
          refine op_fnV rfl rfl rfl hH48 (c16) (fun w52 hH53 => ?_)
          refine ops_y hH53 rfl rfl (yv_pick_t rfl (decide_eq_true hc51) rfl) ?_
          refine ops_y hH53 rfl rfl (yv_assign rfl) (ops_nil (thn_n (ret ?_)))
          have hH54 := (hH53.sub (List.Sublist.cons _ (List.Sublist.cons _ (List.Sublist.cons _ (List.Sublist.refl _)))))
          refine fin hH54 (fun w' hf => (res1 rfl (show RV _ _ _ (.tmp 2) _ from rfl))) (fun w' hf => ?_)
          first | rfl | (exfalso; omega)
        · skip
          refine guard_no rfl rfl (decide_eq_false hc51) rfl ?_
          refine ops_y hH48 rfl rfl (yv_pick_f rfl (decide_eq_false hc51) rfl) ?_
          refine ops_y hH48 rfl rfl (yv_assign rfl) (ops_nil (thn_n (ret ?_)))
          have hH55 := (hH48.sub (List.Sublist.cons _ (List.Sublist.cons _ (List.Sublist.cons _ (List.Sublist.refl _)))))
          refine fin hH55 (fun w' hf => (res1 rfl (show RV _ _ _ (.tmp 2) _ from rfl))) (fun w' hf => ?_)
          first | rfl | (exfalso; omega)
      · skip
        refine guard_no rfl rfl (decide_eq_false hc50) rfl ?_
        refine guard_no rfl rfl (decide_eq_false hc50) rfl ?_
        refine ops_y hH48 rfl rfl (yv_pick_f rfl (decide_eq_false hc50) rfl) ?_
        refine ops_y hH48 rfl rfl (yv_move rfl) (guard_no rfl rfl rfl rfl (guard_no rfl rfl rfl rfl (guard_no rfl rfl rfl rfl (guard_no rfl rfl rfl rfl ?_))))
        refine ops_y hH48 rfl rfl (yv_pick_f rfl rfl rfl) ?_
        refine ops_y hH48 rfl rfl (yv_move rfl) (guard_no rfl rfl rfl rfl ?_)
        refine ops_y hH48 rfl rfl (yv_pick_f rfl rfl rfl) ?_
        refine ops_y hH48 rfl rfl (yv_assign rfl) (ops_nil (thn_n (ret ?_)))
        have hH56 := (hH48.sub (List.Sublist.cons _ (List.Sublist.cons _ (List.Sublist.cons _ (List.Sublist.refl _)))))
        refine fin hH56 (fun w' hf => (res1 rfl (show RV _ _ _ (.tmp 2) _ from rfl))) (fun w' hf => ?_)
        first | rfl | (exfalso; omega)

end Go.Fip

set_option linter.unusedVariables false
set_option linter.unusedSimpArgs false
set_option linter.unusedSectionVars false
namespace Go.Fip.Q
open Go.Fip
theorem nn_of {l : List Int} (hw : ∀ x ∈ l, 0 ≤ x ∧ x ≤ 1000) : Nn l := fun x hx => (hw x hx).1
theorem more_set {l : List Int} {k w : Int} (h : ckW l = 0) (hk0 : 0 ≤ k) (hk : k < (l.length : Int)) (hw0 : 0 ≤ w ∧ w ≤ 1000) : ∃ d, leastR (([] ++ l).set k.toNat (max (nth ([] ++ l) k) w)) = (d, 0) ∧ C l 0 l.length ≤ d ∧ d ≤ 144000 := by
  obtain ⟨hl, hw⟩ := ckW_w h
  rw [List.nil_append]
  have hkl : k.toNat < l.length := by omega
  have hnk : nth l k = nth l ((k.toNat : Nat) : Int) := by rw [Int.toNat_of_nonneg hk0]
  have hb := of_all hw hkl
  obtain ⟨L, hL⟩ : ∃ L, L = l.set k.toNat (max (nth l k) w) := ⟨_, rfl⟩
  rw [← hL]
  have hlen : L.length = l.length := by rw [hL, List.length_set]
  have hLw : ∀ x ∈ L, 0 ≤ x ∧ x ≤ 1000 := fun x hx => by
    rw [hL] at hx
    rcases List.mem_or_eq_of_mem_set hx with h1 | h1
    · exact hw x h1
    · rw [h1, hnk]; omega
  have hc : ckW L = 0 := kw3 (by omega) hLw
  refine ⟨C L 0 L.length, le2 hc, ?_, (C_small hLw (by omega) (Nat.le_refl _)).2⟩
  rw [hlen]
  refine C_mono (P_le (by omega) (fun i hi => ?_)) _ 0 l.length (Nat.le_refl _) (Nat.zero_le _)
  rw [hL, nth_set hkl hi]
  split
  · rename_i e; subst e; rw [hnk]; omega
  · exact Int.le_refl _
def mulTo (l : List Int) (c : Int) (q : Nat) : List Int := (l.take q).map (c * ·)
theorem mulTo_succ {l : List Int} {c : Int} {q : Nat} (h : q < l.length) : mulTo l c q ++ [c * nth l (q : Int)] = mulTo l c (q + 1) := by
  unfold mulTo
  rw [List.take_succ_eq_append_getElem h, List.map_append, nth_nat h]; rfl
theorem mulTo_length {l : List Int} {c : Int} {q : Nat} (h : q ≤ l.length) : (mulTo l c q).length = q := by simp [mulTo]; omega
theorem mulTo_all {l : List Int} {c : Int} {q : Nat} (h : q = l.length) : mulTo l c q = l.map (c * ·) := by unfold mulTo; rw [h, List.take_length]
theorem mul_least {l : List Int} {c : Int} {q : Nat} (h : q = l.length) (hc : 0 ≤ c) (h2 : ckW (mulTo l c q) = 0) : leastR (mulTo l c q) = (c * C l 0 l.length, 0) := by
  rw [le2 h2, mulTo_all h, List.length_map]
  rw [C_mul hc _ 0 l.length (Nat.le_refl _) (Nat.zero_le _)]
theorem mul_many {l : List Int} {c : Int} {q : Nat} (h : q = l.length) (hc : 0 < c) (h2 : ckW (mulTo l c q) = 0) : manyR (mulTo l c q) = ((M l 0 l.length : Int), 0) := by
  rw [ma2 h2, mulTo_all h, List.length_map, M_mul hc _ 0 l.length (Nat.le_refl _)]
theorem more_b {l : List Int} {x : Int} (h : ckW l = 0) (hl : l.length < 12) (hx : 0 ≤ x ∧ x ≤ 1000) : ∃ d, leastR (([] ++ l) ++ [x]) = (d, 0) ∧ C l 0 l.length + x ≤ d ∧ d ≤ C l 0 l.length + x + P l l.length := by
  obtain ⟨hl1, hw⟩ := ckW_w h
  rw [List.nil_append]
  have hc : ckW (l ++ [x]) = 0 := kw3 (by simp; omega) (fun y hy => by
    rcases List.mem_append.1 hy with h1 | h1
    · exact hw y h1
    · rw [List.mem_singleton.1 h1]; exact hx)
  have := more_behind (nn_of hw) hx.1
  exact ⟨_, by rw [le2 hc, List.length_append]; rfl, this.1, this.2⟩
theorem more_a {l : List Int} {x : Int} (h : ckW l = 0) (hl : l.length < 12) (hx : 0 ≤ x ∧ x ≤ 1000) : ∃ d, leastR ([x] ++ l) = (d, 0) ∧ C l 0 l.length + x ≤ d ∧ d ≤ C l 0 l.length + x + P l l.length := by
  obtain ⟨hl1, hw⟩ := ckW_w h
  show ∃ d, leastR (x :: l) = (d, 0) ∧ _
  have hc : ckW (x :: l) = 0 := kw3 (by simp; omega) (fun y hy => by
    rcases List.mem_cons.1 hy with h1 | h1
    · rw [h1]; exact hx
    · exact hw y h1)
  have := more_ahead (nn_of hw) hx.1
  exact ⟨_, by rw [le2 hc]; rfl, this.1, this.2⟩
/-! Roots, one behind another one. -/
theorem roots_sorted {w : List Int} {i k : Nat} : (roots w i k).Pairwise (· < ·) := List.pairwise_lt_range.filter _
theorem rootsI_mem {w : List Int} {i k q : Nat} (h : q < (rootsI w i k).length) : ∃ r : Nat, nth (rootsI w i k) (q : Int) = (r : Int) ∧ Rt w i k r := by
  rw [rootsI_length] at h
  obtain ⟨j, hj, _, e, _⟩ := rootsI_nth h
  exact ⟨i + j, e, Rt_mem.1 hj⟩
theorem rootsI_lt {w : List Int} {i k p q : Nat} (hpq : p < q) (hq : q < (rootsI w i k).length) : nth (rootsI w i k) (p : Int) < nth (rootsI w i k) (q : Int) := by
  have hq2 := hq
  rw [rootsI_length] at hq2
  have := (List.pairwise_iff_getElem.1 (roots_sorted (w := w) (i := i) (k := k))) p q (by omega) hq2 hpq
  rw [nth_nat hq, nth_nat (by omega)]
  simp only [rootsI, List.getElem_map]
  omega
theorem rootsI_at' {w : List Int} {i k r : Nat} (h : Rt w i k r) : ∃ q : Nat, q < (rootsI w i k).length ∧ nth (rootsI w i k) (q : Int) = (r : Int) := by
  have hm : r - i ∈ roots w i k := Rt_mem.2 (by rw [show i + (r - i) = r by have := h.1; omega]; exact h)
  obtain ⟨q, hq, e⟩ := List.getElem_of_mem hm
  refine ⟨q, by rw [rootsI_length]; exact hq, ?_⟩
  rw [nth_nat (by rw [rootsI_length]; exact hq)]
  simp only [rootsI, List.getElem_map, e]
  have := h.1; omega
theorem rootsI_first {w : List Int} {i k r : Nat} (h : Rt w i k r) : nth (rootsI w i k) 0 ≤ (r : Int) := by
  obtain ⟨q, hq, e⟩ := rootsI_at' h
  rw [← e]
  by_cases h0 : q = 0
  · rw [h0]; exact Int.le_refl _
  · exact Int.le_of_lt (rootsI_lt (p := 0) (by omega) hq)
theorem rootsI_last {w : List Int} {i k r : Nat} (h : Rt w i k r) : (r : Int) ≤ nth (rootsI w i k) (((rootsI w i k).length : Int) - 1) := by
  obtain ⟨q, hq, e⟩ := rootsI_at' h
  rw [← e, show ((rootsI w i k).length : Int) - 1 = (((rootsI w i k).length - 1 : Nat) : Int) by omega]
  by_cases h0 : q = (rootsI w i k).length - 1
  · rw [h0]; exact Int.le_refl _
  · exact Int.le_of_lt (rootsI_lt (by omega) (by omega))
theorem rootsI_pos {w : List Int} {i k : Nat} (h : i < k) : 1 ≤ (rootsI w i k).length ∧ (rootsI w i k).length ≤ k - i := by
  rw [rootsI_length]; exact ⟨roots_pos h, roots_length⟩
theorem rooted {w : List Int} (hw : Nn w) {i k : Nat} (h : i < k) :
    nth (rootsI w i k) 0 ≤ nth (rootsI w i (k + 1)) 0 ∧ nth (rootsI w i (k + 1)) 0 ≤ nth (rootsI w (i + 1) (k + 1)) 0 ∧
    nth (rootsI w i k) (((rootsI w i k).length : Int) - 1) ≤ nth (rootsI w i (k + 1)) (((rootsI w i (k + 1)).length : Int) - 1) ∧
    nth (rootsI w i (k + 1)) (((rootsI w i (k + 1)).length : Int) - 1) ≤ nth (rootsI w (i + 1) (k + 1)) (((rootsI w (i + 1) (k + 1)).length : Int) - 1) := by
  have p1 := rootsI_pos (w := w) h
  have p2 := rootsI_pos (w := w) (i := i) (k := k + 1) (by omega)
  have p3 := rootsI_pos (w := w) (i := i + 1) (k := k + 1) (by omega)
  have last : ∀ {a b : Nat}, 1 ≤ (rootsI w a b).length → ∃ r : Nat, nth (rootsI w a b) (((rootsI w a b).length : Int) - 1) = (r : Int) ∧ Rt w a b r := fun {a b} hp => by
    rw [show ((rootsI w a b).length : Int) - 1 = (((rootsI w a b).length - 1 : Nat) : Int) by omega]
    exact rootsI_mem (by omega)
  refine ⟨?_, ?_, ?_, ?_⟩
  · obtain ⟨r, e, hr⟩ := rootsI_mem (w := w) (i := i) (k := k + 1) (q := 0) (by omega)
    obtain ⟨s, hs, hsr⟩ := root_A hw h hr
    have := rootsI_first hs
    have e2 : nth (rootsI w i (k + 1)) 0 = (r : Int) := e
    omega
  · obtain ⟨r, e, hr⟩ := rootsI_mem (w := w) (i := i + 1) (k := k + 1) (q := 0) (by omega)
    obtain ⟨s, hs, hsr⟩ := root_B' hw hr
    have := rootsI_first hs
    have e2 : nth (rootsI w (i + 1) (k + 1)) 0 = (r : Int) := e
    omega
  · obtain ⟨r, e, hr⟩ := last p1.1
    obtain ⟨s, hs, hsr⟩ := root_B hw hr
    have := rootsI_last hs
    omega
  · obtain ⟨r, e, hr⟩ := last p2.1
    obtain ⟨s, hs, hsr⟩ := root_A' hw (by omega) hr
    have := rootsI_last hs
    omega
end Go.Fip.Q
