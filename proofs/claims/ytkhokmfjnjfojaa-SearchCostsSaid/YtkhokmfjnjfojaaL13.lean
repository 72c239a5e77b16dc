/- Walks, by program (wip/tools). -/
import Derived.Test.YtkhokmfjnjfojaaL12
import Derived.Test.YtkhokmfjnjfojaaML
set_option linter.unusedVariables false
set_option linter.unusedSimpArgs false
set_option linter.unusedSectionVars false
set_option linter.unnecessarySimpa false
namespace Go.Fip
open Go.Proofs Go.RowKit

theorem T.el90_encSp : El Try.prog 90 89 4 encSp := el_of (z := (.agg #[(.int .i64 0), (.slice none 0 0), (.int .i64 0), (.slice none 0 0)])) (bytes := 64) (by kernel_rfl) (by kernel_rfl) rfl rfl rfl (fun _ => rfl) Sp.one
theorem T.el91_encV : El Try.prog 91 90 1 encV := el_of (z := (.slice none 0 0)) (bytes := 24) (by kernel_rfl) (by kernel_rfl) rfl rfl rfl (fun _ => rfl) (by intro x; simp [encV, SV.one])
set_option maxHeartbeats 1000000 in
theorem c90 {v u : Value} {l : List Int} {VV : List SV} {TT : List (List Sp)} {i k : Nat} {w : World} (h0 : Rd encI 1 v l w) (hk : Know u VV TT l.length w) (hik : i < k) (hkl : k ≤ l.length) (hn : l.length ≤ 12) (hw : ∀ x ∈ l, 0 ≤ x ∧ x ≤ 1000) (hg : ∀ r : Nat, i ≤ r → r < k → Good l (nth (nth TT (i : Int)) (r : Int)) i r w ∧ Good l (nth (nth TT ((r + 1 : Nat) : Int)) (k : Int)) (r + 1) k w)  :
    Fn Try.prog 90 [v, u, (.int .i64 (i : Int)), (.int .i64 (k : Int))].toArray w (fun x w => ∃ (f r : Value) (rl : List Int), x = .agg #[.int .i64 (Q.C l i k), f, .int .i64 (Q.M l i k : Int), r] ∧ Own 3 1 encI f (Q.F l i k) w ∧ Own 3 1 encI r rl w) := by
  refine fn_of' (args := [v, u, (.int .i64 (i : Int)), (.int .i64 (k : Int))]) Try.func90 rfl (ent Try.func90 (by kernel_rfl) rfl) rfl rfl (fun hH => ?_)
  have hkl1 := hk.2.1
  have hkl2 := hk.2.2.1
  have hPk := Q.P_bd hw (i := i) (k - i) (by omega)
  rw [show i + (k - i) = k by omega] at hPk
  refine seq (region ?_)
  refine op_alloc (z := (.agg #[(.int .i64 0), (.slice none 0 0), (.int .i64 0), (.slice none 0 0)])) (us := [(.int .i64 0), (.slice none 0 0), (.int .i64 0), (.slice none 0 0)]) (fun _ => by kernel_rfl) rfl rfl hH (fun b1 w2 hH3 => ?_)
  refine ops_nil (thn_n (seq (region (ops_y hH3 rfl rfl (yv_assign rfl) (ops_nil (thn_n (seq (seq (region ?_)))))))))
  refine ops_y hH3 rfl rfl (yv_move rfl) (ops_y hH3 rfl rfl (yv_assign rfl) (ops_nil (thn_n (block ?_))))
  refine loop (S := Nat) (fun q => [(9, (.int .i64 (Q.P l (i + q) - Q.P l i))), (10, (.int .i64 ((i + q : Nat) : Int))), (0, v), (1, u), (2, (.int .i64 (i : Int))), (3, (.int .i64 (k : Int))), (8, (.pointer (some ⟨b1, 0, none⟩)))]) (fun q w1 => Heap [bx b1 89 [(.int .i64 0), (.slice none 0 0), (.int .i64 0), (.slice none 0 0)], base w] w1 ∧ i + q ≤ k) (fun q => k - i - q) (0) (Sub.cons (congrArg (fun z : Int => some (Value.int .i64 z)) (by simp)) (Sub.cons (congrArg (fun z : Int => some (Value.int .i64 z)) (by omega)) (Sub.cons rfl (Sub.cons rfl (Sub.cons rfl (Sub.cons rfl (Sub.cons rfl (Sub.nil _)))))))) ?_ ?_
  · exact ⟨hH3, by omega⟩
  · rintro q w4 ⟨hH5, hq⟩
    show Holds _ _ _ _ _ [(9, (.int .i64 (Q.P l (i + q) - Q.P l i))), (10, (.int .i64 ((i + q : Nat) : Int))), (0, v), (1, u), (2, (.int .i64 (i : Int))), (3, (.int .i64 (k : Int))), (8, (.pointer (some ⟨b1, 0, none⟩)))] _ _
    refine seq (seq (region (ops_y hH5 rfl rfl (yv_move rfl) (ops_y hH5 rfl rfl (yv_move rfl) ?_))))
    refine ops_y hH5 rfl rfl (yv_lss rfl rfl) ?_
    refine ops_nil (thn_n ?_)
    by_cases hc6 : ((i + q : Nat) : Int) < (k : Int)
    · skip
      refine cond_t rfl (decide_eq_true hc6) ?_
      refine skip (thn_n (seq (block ?_)))
      have hps := Q.P_succ (w := l) (k := i + q) (by omega)
      have hpb := Q.P_bd hw (i := i) q (by omega)
      have hwa := Q.of_all hw (i := i + q) (by omega)
      refine region (ops_y hH5 rfl rfl (yv_move rfl) (ops_y hH5 rfl rfl (yv_move rfl) (ops_y hH5 rfl rfl (yv_move rfl) ?_)))
      refine ops_y hH5 rfl rfl (yv_index T.sl30 rfl rfl (h0.now hH5 (n := 1) rfl).is (by omega)) ?_
      refine ops_y hH5 rfl rfl (yv_load T.one2 rfl (fun _ hw => Rd.at (h0.now hw (n := 1) rfl) (i := ((i + q : Nat) : Int)) (by omega) (j := 0) rfl)) ?_
      refine ops_y hH5 rfl rfl (yv_add rfl rfl (by omega)) ?_
      refine ops_y hH5 rfl rfl (yv_assign rfl) (ops_nil (blk_n (thn_n (region (ops_y hH5 rfl rfl (yv_move rfl) ?_)))))
      refine ops_y hH5 rfl rfl (yv_add rfl rfl (by omega)) ?_
      refine ops_y hH5 rfl rfl (yv_assign rfl) (ops_nil ?_)
      refine lp_n (q + 1) (Sub.cons (congrArg (fun z : Int => some (Value.int .i64 z)) (by rw [show i + (q + 1) = i + q + 1 by omega]; omega)) (Sub.cons (congrArg (fun z : Int => some (Value.int .i64 z)) (by omega)) (Sub.cons rfl (Sub.cons rfl (Sub.cons rfl (Sub.cons rfl (Sub.cons rfl (Sub.nil _)))))))) ?_ ?_
      · exact ⟨hH5, by omega⟩
      · first | (dsimp only; omega) | (show _ < _; omega)
    · skip
      refine cond_f rfl (decide_eq_false hc6) ?_
      refine exit (thn_x (lp_x (blk_here (thn_n (seq ?_)))))
      have hqe : i + q = k := by omega
      have hPe : Q.P l (i + q) = Q.P l k := by rw [hqe]
      refine region ?_
      refine op_alloc (z := (.agg #[(.int .i64 0), (.slice none 0 0), (.int .i64 0), (.slice none 0 0)])) (us := [(.int .i64 0), (.slice none 0 0), (.int .i64 0), (.slice none 0 0)]) (fun _ => by kernel_rfl) rfl rfl hH5 (fun b7 w8 hH9 => ?_)
      refine ops_nil (thn_n (seq (seq (region (ops_y hH9 rfl rfl (yv_move rfl) (ops_y hH9 rfl rfl (yv_assign rfl) (ops_nil (thn_n (block ?_)))))))))
      have hH10 := ow_nil (enc := encI) 3 1 hH9
      have hH11 := ow_nil (enc := encI) 3 1 hH10
      refine loop (S := Nat × Value × Nat × Nat × Value × Nat × Nat) (fun (j, v_b11_1, lo_b11_1, hi_b11_1, v_b11_3, lo_b11_3, hi_b11_3) => [(9, (.int .i64 (Q.P l k - Q.P l i))), (12, (.int .i64 ((i + j : Nat) : Int))), (1, u), (2, (.int .i64 (i : Int))), (3, (.int .i64 (k : Int))), (8, (.pointer (some ⟨b1, 0, none⟩))), (11, (.pointer (some ⟨b7, 0, none⟩)))]) (fun (j, v_b11_1, lo_b11_1, hi_b11_1, v_b11_3, lo_b11_3, hi_b11_3) w1 => Heap [ow lo_b11_3 hi_b11_3 3 1 encI v_b11_3 ((Q.spS l i k j).r), ow lo_b11_1 hi_b11_1 3 1 encI v_b11_1 ((Q.spS l i k j).f), bx b7 89 [(.int .i64 ((Q.spS l i k j).c)), v_b11_1, (.int .i64 ((Q.spS l i k j).m : Int)), v_b11_3], bx b1 89 [(.int .i64 0), (.slice none 0 0), (.int .i64 0), (.slice none 0 0)], base w] w1 ∧ i + j ≤ k) (fun (j, v_b11_1, lo_b11_1, hi_b11_1, v_b11_3, lo_b11_3, hi_b11_3) => k - i - j) (0, (.slice none 0 0), w8.heap.size, w8.heap.size, (.slice none 0 0), w8.heap.size, w8.heap.size) (Sub.cons (congrArg (fun z : Int => some (Value.int .i64 z)) (by rw [hPe])) (Sub.cons (congrArg (fun z : Int => some (Value.int .i64 z)) (by omega)) (Sub.cons rfl (Sub.cons rfl (Sub.cons rfl (Sub.cons rfl (Sub.cons rfl (Sub.nil _)))))))) ?_ ?_
      · exact ⟨(Heap.recastBx (n := 2) (Heap.recast (n := 0) (Heap.recast (n := 1) hH11 rfl (rfl)) rfl (rfl)) rfl (rfl)), by omega⟩
      · rintro ⟨j, v_b11_1, lo_b11_1, hi_b11_1, v_b11_3, lo_b11_3, hi_b11_3⟩ w12 ⟨hH13, hj⟩
        show Holds _ _ _ _ _ [(9, (.int .i64 (Q.P l k - Q.P l i))), (12, (.int .i64 ((i + j : Nat) : Int))), (1, u), (2, (.int .i64 (i : Int))), (3, (.int .i64 (k : Int))), (8, (.pointer (some ⟨b1, 0, none⟩))), (11, (.pointer (some ⟨b7, 0, none⟩)))] _ _
        have hcb := Q.spc_bd hw hn hkl j hj
        have hmb := Q.spm_bd (w := l) (i := i) (k := k) (by omega) j hj
        have hrl := Q.spr_len (w := l) (i := i) (k := k) j
        refine seq (seq (region (ops_y hH13 rfl rfl (yv_move rfl) (ops_y hH13 rfl rfl (yv_move rfl) ?_))))
        refine ops_y hH13 rfl rfl (yv_lss rfl rfl) ?_
        refine ops_nil (thn_n ?_)
        by_cases hc14 : ((i + j : Nat) : Int) < (k : Int)
        · skip
          refine cond_t rfl (decide_eq_true hc14) ?_
          refine skip (thn_n (seq (block ?_)))
          refine cut (S := Nat × Nat) (fun (bL, bR) => [(13, (.pointer (some ⟨bL, 0, none⟩))), (14, (.pointer (some ⟨bR, 0, none⟩))), (1, u), (2, (.int .i64 (i : Int))), (3, (.int .i64 (k : Int))), (8, (.pointer (some ⟨b1, 0, none⟩))), (9, (.int .i64 (Q.P l k - Q.P l i))), (11, (.pointer (some ⟨b7, 0, none⟩))), (12, (.int .i64 ((i + j : Nat) : Int)))]) (fun (bL, bR) w1 => Heap [bx bL 89 [(.int .i64 ((nth (nth TT (i : Int)) ((i + j : Nat) : Int)).c)), (nth (nth TT (i : Int)) ((i + j : Nat) : Int)).f.1, (.int .i64 ((nth (nth TT (i : Int)) ((i + j : Nat) : Int)).m)), (nth (nth TT (i : Int)) ((i + j : Nat) : Int)).r.1], bx bR 89 [(.int .i64 ((nth (nth TT ((i + j + 1 : Nat) : Int)) (k : Int)).c)), (nth (nth TT ((i + j + 1 : Nat) : Int)) (k : Int)).f.1, (.int .i64 ((nth (nth TT ((i + j + 1 : Nat) : Int)) (k : Int)).m)), (nth (nth TT ((i + j + 1 : Nat) : Int)) (k : Int)).r.1], ow lo_b11_3 hi_b11_3 3 1 encI v_b11_3 ((Q.spS l i k j).r), ow lo_b11_1 hi_b11_1 3 1 encI v_b11_1 ((Q.spS l i k j).f), bx b7 89 [(.int .i64 ((Q.spS l i k j).c)), v_b11_1, (.int .i64 ((Q.spS l i k j).m : Int)), v_b11_3], bx b1 89 [(.int .i64 0), (.slice none 0 0), (.int .i64 0), (.slice none 0 0)], base w] w1) ?_ ?_
          · skip
            obtain ⟨⟨hl1, hl2, hl3⟩, hr1, hr2, hr3⟩ := hg (i + j) (by omega) (by omega)
            have hKe : Q.K l i k (i + j) = (Q.P l k - Q.P l i) + (Q.C l i (i + j) + Q.C l (i + j + 1) k) := rfl
            have hB1 := Q.C_small hw hn (i := i) (k := i + j) (by omega)
            have hB2 := Q.C_small hw hn (i := i + j + 1) (k := k) (by omega)
            have hM0 : (nth (nth TT (i : Int)) ((i + j : Nat) : Int)).m * (nth (nth TT ((i + j + 1 : Nat) : Int)) (k : Int)).m = (Q.mny l i k j : Int) := by rw [hl2, hr2]; unfold Q.mny; push_cast; rfl
            have hM1 := Q.mny_bd (w := l) (i := i) (k := k) (j := j) (by omega) (by omega)
            have hrl := hk.rlen (i := i) (by omega)
            have hrr := hk.rlen (i := i + j + 1) (by omega)
            have hF1 := Q.F_length (w := l) (i := i) (k := i + j)
            have hF2 := Q.F_length (w := l) (i := i + j + 1) (k := k)
            have hsm0 := Q.F_sm (w := l) (s := i) (e := i + j) (by omega) (by omega)
            have hsm1 := Q.F_sm (w := l) (s := i + j + 1) (e := k) (by omega) (by omega)
            have htl : (Q.tre l i k j).length = k - i := by unfold Q.tre; rw [Q.hung_length]; omega
            have hfl := fun h => Q.spf_len (w := l) (i := i) (k := k) j (by omega) h
            refine region_draw (fun w' => Heap [ow lo_b11_3 hi_b11_3 3 1 encI v_b11_3 ((Q.spS l i k j).r), ow lo_b11_1 hi_b11_1 3 1 encI v_b11_1 ((Q.spS l i k j).f), bx b7 89 [(.int .i64 ((Q.spS l i k j).c)), v_b11_1, (.int .i64 ((Q.spS l i k j).m : Int)), v_b11_3], bx b1 89 [(.int .i64 0), (.slice none 0 0), (.int .i64 0), (.slice none 0 0)], base w] w') T.mixed (fun w15 hr16 => ?_)
            have hH17 := hH13.redrawn hr16
            refine any_takes [0, 1, 2, 3, 4, 5, 6, 7, 8, 9, 10, 11, 12, 13, 14] (by kernel_rfl) hH17 _ _ _ (by kernel_rfl) ?_
            refine qs_y rfl rfl (yv_move rfl) (qs_y rfl rfl (yv_move rfl) ?_)
            refine qs_y rfl rfl (yv_index T.sl91 rfl rfl ((hk.now hH17 (n := 4) rfl).hd).is (by omega)) ?_
            refine qs_y rfl rfl (yv_load T.one90 rfl (fun _ hw => Rd.at ((hk.now hw (n := 4) rfl).hd) (i := (i : Int)) (by omega) (j := 0) rfl)) ?_
            refine qs_y rfl rfl (yv_move rfl) ?_
            refine qs_y rfl rfl (yv_index T.sl90 rfl rfl ((hk.at (i := (i : Int)) (by omega) (by omega)).now hH17 (n := 4) rfl).is (by omega)) ?_
            refine qs_y rfl rfl (yv_loadA (cs := [(.int .i64 ((nth (nth TT (i : Int)) ((i + j : Nat) : Int)).c)), (nth (nth TT (i : Int)) ((i + j : Nat) : Int)).f.1, (.int .i64 ((nth (nth TT (i : Int)) ((i + j : Nat) : Int)).m)), (nth (nth TT (i : Int)) ((i + j : Nat) : Int)).r.1]) T.agg89 rfl rfl (fun _ hw => Rd.atA ((hk.at (i := (i : Int)) (by omega) (by omega)).now hw (n := 4) rfl) (i := ((i + j : Nat) : Int)) (by omega))) ?_
            refine qs_y rfl rfl (yv_move rfl) (qs_y rfl rfl (yv_move rfl) ?_)
            refine qs_y rfl rfl (yv_cast (show _ = ((i + j + 1 : Nat) : Int) by omega) (yv_add rfl rfl (by omega))) ?_
            refine qs_y rfl rfl (yv_index T.sl91 rfl rfl ((hk.now hH17 (n := 4) rfl).hd).is (by omega)) ?_
            refine qs_y rfl rfl (yv_load T.one90 rfl (fun _ hw => Rd.at ((hk.now hw (n := 4) rfl).hd) (i := ((i + j + 1 : Nat) : Int)) (by omega) (j := 0) rfl)) ?_
            refine qs_y rfl rfl (yv_move rfl) ?_
            refine qs_y rfl rfl (yv_index T.sl90 rfl rfl ((hk.at (i := ((i + j + 1 : Nat) : Int)) (by omega) (by omega)).now hH17 (n := 4) rfl).is (by omega)) ?_
            refine qs_y rfl rfl (yv_loadA (cs := [(.int .i64 ((nth (nth TT ((i + j + 1 : Nat) : Int)) (k : Int)).c)), (nth (nth TT ((i + j + 1 : Nat) : Int)) (k : Int)).f.1, (.int .i64 ((nth (nth TT ((i + j + 1 : Nat) : Int)) (k : Int)).m)), (nth (nth TT ((i + j + 1 : Nat) : Int)) (k : Int)).r.1]) T.agg89 rfl rfl (fun _ hw => Rd.atA ((hk.at (i := ((i + j + 1 : Nat) : Int)) (by omega) (by omega)).now hw (n := 4) rfl) (i := (k : Int)) (by omega))) ?_
            refine qs_nil ?_
            refine any_all [15, 16] (by kernel_rfl) rfl ?_
            refine ⟨⟨_, rfl, ?_⟩, ⟨_, rfl, ?_⟩, trivial⟩
            · skip
              refine op_alloc (z := (.agg #[(.int .i64 0), (.slice none 0 0), (.int .i64 0), (.slice none 0 0)])) (us := [(.int .i64 0), (.slice none 0 0), (.int .i64 0), (.slice none 0 0)]) (fun _ => by kernel_rfl) rfl rfl hH17 (fun b18 w19 hH20 => ?_)
              refine ops_nil ?_
              refine ⟨(hH20.sub (List.Sublist.cons _ (List.Sublist.refl _))), ?_⟩
              refine any_all [16] (by kernel_rfl) rfl ?_
              refine ⟨⟨_, rfl, ?_⟩, trivial⟩
              · skip
                refine op_alloc (z := (.agg #[(.int .i64 0), (.slice none 0 0), (.int .i64 0), (.slice none 0 0)])) (us := [(.int .i64 0), (.slice none 0 0), (.int .i64 0), (.slice none 0 0)]) (fun _ => by kernel_rfl) rfl rfl hH20 (fun b21 w22 hH23 => ?_)
                refine ops_nil ?_
                refine ⟨(hH23.sub (List.Sublist.cons _ (List.Sublist.cons _ (List.Sublist.refl _)))), ?_⟩
                refine any_all [17] (by kernel_rfl) rfl ?_
                refine ⟨⟨_, rfl, ?_⟩, trivial⟩
                · skip
                  refine op_store (n := 1) (j := 0) (us := [(.int .i64 ((nth (nth TT (i : Int)) ((i + j : Nat) : Int)).c)), (nth (nth TT (i : Int)) ((i + j : Nat) : Int)).f.1, (.int .i64 ((nth (nth TT (i : Int)) ((i + j : Nat) : Int)).m)), (nth (nth TT (i : Int)) ((i + j : Nat) : Int)).r.1]) rfl rfl hH23 rfl T.sz89 rfl rfl rfl (all_one rfl (all_one (SliceIs.one1 (hl3.now hH23 (n := 6) rfl).is) (all_one rfl (all_one (SV.one _) rfl)))) (fun w24 hH25 => ?_)
                  refine ops_nil ?_
                  refine ⟨(hH25.sub (List.Sublist.cons _ (List.Sublist.cons _ (List.Sublist.refl _)))), ?_⟩
                  refine any_all [18] (by kernel_rfl) rfl ?_
                  refine ⟨⟨_, rfl, ?_⟩, trivial⟩
                  · skip
                    refine op_store (n := 0) (j := 0) (us := [(.int .i64 ((nth (nth TT ((i + j + 1 : Nat) : Int)) (k : Int)).c)), (nth (nth TT ((i + j + 1 : Nat) : Int)) (k : Int)).f.1, (.int .i64 ((nth (nth TT ((i + j + 1 : Nat) : Int)) (k : Int)).m)), (nth (nth TT ((i + j + 1 : Nat) : Int)) (k : Int)).r.1]) rfl rfl hH25 rfl T.sz89 rfl rfl rfl (all_one rfl (all_one (SliceIs.one1 (hr3.now hH25 (n := 6) rfl).is) (all_one rfl (all_one (SV.one _) rfl)))) (fun w26 hH27 => ?_)
                    refine ops_nil ?_
                    refine ⟨(hH27.sub (List.Sublist.cons _ (List.Sublist.cons _ (List.Sublist.refl _)))), ?_⟩
                    refine any_done (by kernel_rfl) ?_
                    have hH28 := hH27.front (n := 6) rfl
                    have hH29 := hH28.front (n := 6) rfl
                    have hH30 := hH29.front (n := 6) rfl
                    have hH31 := hH30.front (n := 6) rfl
                    have hH32 := hH31.front (n := 6) rfl
                    have hH33 := hH32.front (n := 5) rfl
                    have hH34 := hH33.front (n := 6) rfl
                    refine mid_n (b18, b21) (Sub.cons rfl (Sub.cons rfl (Sub.cons rfl (Sub.cons rfl (Sub.cons rfl (Sub.cons rfl (Sub.cons rfl (Sub.cons rfl (Sub.cons rfl (Sub.nil _)))))))))) ?_
                    exact hH34
            · skip
              refine op_alloc (z := (.agg #[(.int .i64 0), (.slice none 0 0), (.int .i64 0), (.slice none 0 0)])) (us := [(.int .i64 0), (.slice none 0 0), (.int .i64 0), (.slice none 0 0)]) (fun _ => by kernel_rfl) rfl rfl hH17 (fun b35 w36 hH37 => ?_)
              refine ops_nil ?_
              refine ⟨(hH37.sub (List.Sublist.cons _ (List.Sublist.refl _))), ?_⟩
              refine any_all [15] (by kernel_rfl) rfl ?_
              refine ⟨⟨_, rfl, ?_⟩, trivial⟩
              · skip
                refine op_alloc (z := (.agg #[(.int .i64 0), (.slice none 0 0), (.int .i64 0), (.slice none 0 0)])) (us := [(.int .i64 0), (.slice none 0 0), (.int .i64 0), (.slice none 0 0)]) (fun _ => by kernel_rfl) rfl rfl hH37 (fun b38 w39 hH40 => ?_)
                refine ops_nil ?_
                refine ⟨(hH40.sub (List.Sublist.cons _ (List.Sublist.cons _ (List.Sublist.refl _)))), ?_⟩
                refine any_all [17] (by kernel_rfl) rfl ?_
                refine ⟨⟨_, rfl, ?_⟩, trivial⟩
                · skip
                  refine op_store (n := 0) (j := 0) (us := [(.int .i64 ((nth (nth TT (i : Int)) ((i + j : Nat) : Int)).c)), (nth (nth TT (i : Int)) ((i + j : Nat) : Int)).f.1, (.int .i64 ((nth (nth TT (i : Int)) ((i + j : Nat) : Int)).m)), (nth (nth TT (i : Int)) ((i + j : Nat) : Int)).r.1]) rfl rfl hH40 rfl T.sz89 rfl rfl rfl (all_one rfl (all_one (SliceIs.one1 (hl3.now hH40 (n := 6) rfl).is) (all_one rfl (all_one (SV.one _) rfl)))) (fun w41 hH42 => ?_)
                  refine ops_nil ?_
                  refine ⟨(hH42.sub (List.Sublist.cons _ (List.Sublist.cons _ (List.Sublist.refl _)))), ?_⟩
                  refine any_all [18] (by kernel_rfl) rfl ?_
                  refine ⟨⟨_, rfl, ?_⟩, trivial⟩
                  · skip
                    refine op_store (n := 1) (j := 0) (us := [(.int .i64 ((nth (nth TT ((i + j + 1 : Nat) : Int)) (k : Int)).c)), (nth (nth TT ((i + j + 1 : Nat) : Int)) (k : Int)).f.1, (.int .i64 ((nth (nth TT ((i + j + 1 : Nat) : Int)) (k : Int)).m)), (nth (nth TT ((i + j + 1 : Nat) : Int)) (k : Int)).r.1]) rfl rfl hH42 rfl T.sz89 rfl rfl rfl (all_one rfl (all_one (SliceIs.one1 (hr3.now hH42 (n := 6) rfl).is) (all_one rfl (all_one (SV.one _) rfl)))) (fun w43 hH44 => ?_)
                    refine ops_nil ?_
                    refine ⟨(hH44.sub (List.Sublist.cons _ (List.Sublist.cons _ (List.Sublist.refl _)))), ?_⟩
                    refine any_done (by kernel_rfl) ?_
                    refine mid_n (b38, b35) (Sub.cons rfl (Sub.cons rfl (Sub.cons rfl (Sub.cons rfl (Sub.cons rfl (Sub.cons rfl (Sub.cons rfl (Sub.cons rfl (Sub.cons rfl (Sub.nil _)))))))))) ?_
                    exact hH44
          · rintro ⟨bL, bR⟩ w45 hH46
            show Holds _ _ _ _ _ [(13, (.pointer (some ⟨bL, 0, none⟩))), (14, (.pointer (some ⟨bR, 0, none⟩))), (1, u), (2, (.int .i64 (i : Int))), (3, (.int .i64 (k : Int))), (8, (.pointer (some ⟨b1, 0, none⟩))), (9, (.int .i64 (Q.P l k - Q.P l i))), (11, (.pointer (some ⟨b7, 0, none⟩))), (12, (.int .i64 ((i + j : Nat) : Int)))] _ _
            refine seq ?_
            obtain ⟨⟨hl1, hl2, hl3⟩, hr1, hr2, hr3⟩ := hg (i + j) (by omega) (by omega)
            have hKe : Q.K l i k (i + j) = (Q.P l k - Q.P l i) + (Q.C l i (i + j) + Q.C l (i + j + 1) k) := rfl
            have hB1 := Q.C_small hw hn (i := i) (k := i + j) (by omega)
            have hB2 := Q.C_small hw hn (i := i + j + 1) (k := k) (by omega)
            have hM0 : (nth (nth TT (i : Int)) ((i + j : Nat) : Int)).m * (nth (nth TT ((i + j + 1 : Nat) : Int)) (k : Int)).m = (Q.mny l i k j : Int) := by rw [hl2, hr2]; unfold Q.mny; push_cast; rfl
            have hM1 := Q.mny_bd (w := l) (i := i) (k := k) (j := j) (by omega) (by omega)
            have hrl := hk.rlen (i := i) (by omega)
            have hrr := hk.rlen (i := i + j + 1) (by omega)
            have hF1 := Q.F_length (w := l) (i := i) (k := i + j)
            have hF2 := Q.F_length (w := l) (i := i + j + 1) (k := k)
            have hsm0 := Q.F_sm (w := l) (s := i) (e := i + j) (by omega) (by omega)
            have hsm1 := Q.F_sm (w := l) (s := i + j + 1) (e := k) (by omega) (by omega)
            have htl : (Q.tre l i k j).length = k - i := by unfold Q.tre; rw [Q.hung_length]; omega
            have hfl := fun h => Q.spf_len (w := l) (i := i) (k := k) j (by omega) h
            refine region_draw (fun w' => Heap [bx bL 89 [(.int .i64 ((nth (nth TT (i : Int)) ((i + j : Nat) : Int)).c)), (nth (nth TT (i : Int)) ((i + j : Nat) : Int)).f.1, (.int .i64 ((nth (nth TT (i : Int)) ((i + j : Nat) : Int)).m)), (nth (nth TT (i : Int)) ((i + j : Nat) : Int)).r.1], bx bR 89 [(.int .i64 ((nth (nth TT ((i + j + 1 : Nat) : Int)) (k : Int)).c)), (nth (nth TT ((i + j + 1 : Nat) : Int)) (k : Int)).f.1, (.int .i64 ((nth (nth TT ((i + j + 1 : Nat) : Int)) (k : Int)).m)), (nth (nth TT ((i + j + 1 : Nat) : Int)) (k : Int)).r.1], ow lo_b11_3 hi_b11_3 3 1 encI v_b11_3 ((Q.spS l i k j).r), ow lo_b11_1 hi_b11_1 3 1 encI v_b11_1 ((Q.spS l i k j).f), bx b7 89 [(.int .i64 ((Q.spS l i k j).c)), v_b11_1, (.int .i64 ((Q.spS l i k j).m : Int)), v_b11_3], bx b1 89 [(.int .i64 0), (.slice none 0 0), (.int .i64 0), (.slice none 0 0)], base w] w') T.mixed (fun w47 hr48 => ?_)
            have hH49 := hH46.redrawn hr48
            refine any_takes [0, 1, 2, 3, 4, 5, 6, 7, 8, 9, 10, 12, 13, 14, 15, 16] (by kernel_rfl) hH49 _ _ _ (by kernel_rfl) ?_
            refine qs_y rfl rfl (yv_move rfl) ?_
            refine qs_y rfl rfl (yv_field T.f89_0 rfl) ?_
            refine qs_y rfl rfl (yv_load T.one2 rfl (fun _ hw => Heap.cellw hw (n := 0) rfl rfl)) ?_
            refine qs_y rfl rfl (yv_add rfl rfl (by omega)) ?_
            refine qs_y rfl rfl (yv_field T.f89_0 rfl) ?_
            refine qs_y rfl rfl (yv_load T.one2 rfl (fun _ hw => Heap.cellw hw (n := 1) rfl rfl)) ?_
            refine qs_y rfl rfl (yv_cast (show _ = Q.K l i k (i + j) by rw [hl1, hr1]; omega) (yv_add rfl rfl (by omega))) ?_
            refine qs_y rfl rfl (yv_field T.f89_1 rfl) ?_
            refine qs_y rfl rfl (yv_load T.one22 rfl (fun _ hw => Heap.cellw hw (n := 0) rfl rfl)) ?_
            refine qs_y rfl rfl (yv_field T.f89_1 rfl) ?_
            refine qs_y rfl rfl (yv_load T.one22 rfl (fun _ hw => Heap.cellw hw (n := 1) rfl rfl)) ?_
            refine qs_y rfl rfl (yv_field T.f89_2 rfl) ?_
            refine qs_y rfl rfl (yv_load T.one2 rfl (fun _ hw => Heap.cellw hw (n := 0) rfl rfl)) ?_
            refine qs_y rfl rfl (yv_field T.f89_2 rfl) ?_
            refine qs_y rfl rfl (yv_load T.one2 rfl (fun _ hw => Heap.cellw hw (n := 1) rfl rfl)) ?_
            refine qs_y rfl rfl (yv_cast hM0 (yv_mul rfl rfl (by rw [hM0]; omega))) ?_
            refine qs_nil ?_
            refine any_all [11] (by kernel_rfl) rfl ?_
            refine ⟨⟨_, rfl, ?_⟩, trivial⟩
            · skip
              refine op_fn rfl rfl rfl hH49 (c80 (hl3.now hH49 (n := 6) rfl) (hr3.now hH49 (n := 6) rfl) (by omega) (by omega) hsm0 hsm1) (fun u52 w50 lo53 hi54 hH51 hv55 => ?_)
              have hH56 := Heap.toOw hH51 (n := 0) rfl
              have hH57 := Heap.recast (n := 0) hH56 rfl (show _ = Q.tre l i k j from rfl)
              refine ops_nil ?_
              refine ⟨(hH57.sub (List.Sublist.cons _ (List.Sublist.refl _))), ?_⟩
              refine any_takes [17, 18, 19] (by kernel_rfl) (hH57.sub (List.Sublist.cons _ (List.Sublist.refl _))) _ _ _ (by kernel_rfl) ?_
              refine qs_y rfl rfl (yv_assign rfl) (qs_y rfl rfl (yv_assign rfl) (qs_y rfl rfl (yv_assign rfl) (qs_nil ?_)))
              refine any_done (by kernel_rfl) ?_
              refine thn_n (seq (seq (region ?_)))
              refine ops_y hH57 rfl rfl (yv_field T.f89_3 rfl) ?_
              refine ops_y hH57 rfl rfl (yv_load T.one22 rfl (fun _ hw => Heap.cellw hw (n := 5) rfl rfl)) ?_
              refine ops_y hH57 rfl rfl (yv_len T.sl22 rfl (Heap.rdw T.el22_encI hH57 (n := 3) rfl).is) ?_
              refine ops_y hH57 rfl rfl (yv_eql rfl rfl) ?_
              refine ops_y hH57 rfl rfl (yv_move rfl) ?_
              by_cases hc58 : (((Q.spS l i k j).r).length : Int) = 0
              · skip
                refine guard_no rfl rfl (decide_eq_true hc58) rfl ?_
                refine guard_no rfl rfl (decide_eq_true hc58) rfl ?_
                refine guard_no rfl rfl (decide_eq_true hc58) rfl ?_
                refine guard_no rfl rfl (decide_eq_true hc58) rfl ?_
                refine ops_y hH57 rfl rfl (yv_pick_t rfl (decide_eq_true hc58) rfl) ?_
                refine ops_nil (thn_n ?_)
                refine cond_t rfl rfl ?_
                refine seq ?_
                have hsp := Q.sp_new (w := l) (i := i) (k := k) (j := j) (by first | exact .inl (by omega) | exact .inr (by omega))
                refine region (ops_y hH57 rfl rfl (yv_move rfl) (ops_y hH57 rfl rfl (yv_move rfl) (ops_y hH57 rfl rfl (yv_move rfl) (ops_y hH57 rfl rfl (yv_move rfl) ?_))))
                refine op_lit (us := [(0, (.int .i64 ((i + j : Nat) : Int)))]) T.el22_encI [((i + j : Nat) : Int)] rfl (by decide) rfl (fun a ha => by simp [ha.ev (show ev _ (.tmp 81) = some _ from rfl)]) (fun w => by kernel_rfl) hH57 (fun u59 lo61 hi62 w60 hH63 => ?_)
                obtain ⟨_, _, hb64, _⟩ := (Heap.rdw T.el22_encI hH63 (n := 1) rfl).is
                obtain ⟨_, _, hb65, _⟩ := (Heap.rdw T.el22_encI hH63 (n := 0) rfl).is
                refine ops_y hH63 rfl rfl (yv_build (v := (.agg #[(.int .i64 (Q.K l i k (i + j))), u52, (.int .i64 (Q.mny l i k j : Int)), u59])) (us := [(0, (.int .i64 (Q.K l i k (i + j)))), (1, u52), (2, (.int .i64 (Q.mny l i k j : Int))), (3, u59)]) (fun a ha => by simp [ha.ev (show ev _ (.tmp 78) = some _ from rfl), ha.ev (show ev _ (.tmp 79) = some _ from rfl), ha.ev (show ev _ (.tmp 80) = some _ from rfl), ha.ev (show ev _ (.tmp 82) = some _ from rfl)]) (fun w => by rw [hb64, hb65]; kernel_rfl)) ?_
                refine op_store (n := 6) (j := 0) (us := [(.int .i64 (Q.K l i k (i + j))), u52, (.int .i64 (Q.mny l i k j : Int)), u59]) rfl rfl hH63 rfl T.sz89 rfl rfl rfl (all_one rfl (all_one (SliceIs.one1 (Heap.rdw T.el22_encI hH63 (n := 1) rfl).is) (all_one rfl (all_one (SliceIs.one1 (Heap.rdw T.el22_encI hH63 (n := 0) rfl).is) rfl)))) (fun w66 hH67 => ?_)
                refine ops_nil (thn_n (exit (thn_x (blk_here (thn_n (region (ops_y hH67 rfl rfl (yv_move rfl) ?_)))))))
                refine ops_y hH67 rfl rfl (yv_add rfl rfl (by omega)) ?_
                refine ops_y hH67 rfl rfl (yv_assign rfl) (ops_nil ?_)
                have hH68 := (hH67.sub (List.Sublist.cons_cons _ (List.Sublist.cons_cons _ (List.Sublist.cons _ (List.Sublist.cons _ (List.Sublist.cons _ (List.Sublist.cons _ (List.Sublist.refl _))))))))
                refine lp_n (j + 1, u52, lo53, hi54, u59, lo61, hi62) (Sub.cons rfl (Sub.cons (congrArg (fun z : Int => some (Value.int .i64 z)) (by omega)) (Sub.cons rfl (Sub.cons rfl (Sub.cons rfl (Sub.cons rfl (Sub.cons rfl (Sub.nil _)))))))) ?_ ?_
                · exact ⟨(Heap.recastBx (n := 2) (Heap.recast (n := 0) (Heap.recast (n := 1) hH68 rfl ((by rw [hsp]))) rfl ((by rw [hsp] <;> simp))) rfl ((by rw [hsp] <;> rfl))), by omega⟩
                · first | (dsimp only; omega) | (show _ < _; omega)
              · skip
                refine guard_yes rfl rfl (decide_eq_false hc58) ?_
                refine ops_y hH57 rfl rfl (yv_move rfl) ?_
                refine guard_yes rfl rfl (decide_eq_false hc58) ?_
                refine ops_y hH57 rfl rfl (yv_field T.f89_0 rfl) ?_
                refine guard_yes rfl rfl (decide_eq_false hc58) ?_
                refine ops_y hH57 rfl rfl (yv_load T.one2 rfl (fun _ hw => Heap.cellw hw (n := 5) rfl rfl)) ?_
                refine guard_yes rfl rfl (decide_eq_false hc58) ?_
                refine ops_y hH57 rfl rfl (yv_lss rfl rfl) ?_
                refine ops_y hH57 rfl rfl (yv_pick_f rfl (decide_eq_false hc58) rfl) ?_
                refine ops_nil (thn_n ?_)
                by_cases hc69 : (Q.K l i k (i + j)) < ((Q.spS l i k j).c)
                · skip
                  refine cond_t rfl (decide_eq_true hc69) ?_
                  refine seq ?_
                  have hsp := Q.sp_new (w := l) (i := i) (k := k) (j := j) (by first | exact .inl (by omega) | exact .inr (by omega))
                  refine region (ops_y hH57 rfl rfl (yv_move rfl) (ops_y hH57 rfl rfl (yv_move rfl) (ops_y hH57 rfl rfl (yv_move rfl) (ops_y hH57 rfl rfl (yv_move rfl) ?_))))
                  refine op_lit (us := [(0, (.int .i64 ((i + j : Nat) : Int)))]) T.el22_encI [((i + j : Nat) : Int)] rfl (by decide) rfl (fun a ha => by simp [ha.ev (show ev _ (.tmp 81) = some _ from rfl)]) (fun w => by kernel_rfl) hH57 (fun u70 lo72 hi73 w71 hH74 => ?_)
                  obtain ⟨_, _, hb75, _⟩ := (Heap.rdw T.el22_encI hH74 (n := 1) rfl).is
                  obtain ⟨_, _, hb76, _⟩ := (Heap.rdw T.el22_encI hH74 (n := 0) rfl).is
                  refine ops_y hH74 rfl rfl (yv_build (v := (.agg #[(.int .i64 (Q.K l i k (i + j))), u52, (.int .i64 (Q.mny l i k j : Int)), u70])) (us := [(0, (.int .i64 (Q.K l i k (i + j)))), (1, u52), (2, (.int .i64 (Q.mny l i k j : Int))), (3, u70)]) (fun a ha => by simp [ha.ev (show ev _ (.tmp 78) = some _ from rfl), ha.ev (show ev _ (.tmp 79) = some _ from rfl), ha.ev (show ev _ (.tmp 80) = some _ from rfl), ha.ev (show ev _ (.tmp 82) = some _ from rfl)]) (fun w => by rw [hb75, hb76]; kernel_rfl)) ?_
                  refine op_store (n := 6) (j := 0) (us := [(.int .i64 (Q.K l i k (i + j))), u52, (.int .i64 (Q.mny l i k j : Int)), u70]) rfl rfl hH74 rfl T.sz89 rfl rfl rfl (all_one rfl (all_one (SliceIs.one1 (Heap.rdw T.el22_encI hH74 (n := 1) rfl).is) (all_one rfl (all_one (SliceIs.one1 (Heap.rdw T.el22_encI hH74 (n := 0) rfl).is) rfl)))) (fun w77 hH78 => ?_)
                  refine ops_nil (thn_n (exit (thn_x (blk_here (thn_n (region (ops_y hH78 rfl rfl (yv_move rfl) ?_)))))))
                  refine ops_y hH78 rfl rfl (yv_add rfl rfl (by omega)) ?_
                  refine ops_y hH78 rfl rfl (yv_assign rfl) (ops_nil ?_)
                  have hH79 := (hH78.sub (List.Sublist.cons_cons _ (List.Sublist.cons_cons _ (List.Sublist.cons _ (List.Sublist.cons _ (List.Sublist.cons _ (List.Sublist.cons _ (List.Sublist.refl _))))))))
                  refine lp_n (j + 1, u52, lo53, hi54, u70, lo72, hi73) (Sub.cons rfl (Sub.cons (congrArg (fun z : Int => some (Value.int .i64 z)) (by omega)) (Sub.cons rfl (Sub.cons rfl (Sub.cons rfl (Sub.cons rfl (Sub.cons rfl (Sub.nil _)))))))) ?_ ?_
                  · exact ⟨(Heap.recastBx (n := 2) (Heap.recast (n := 0) (Heap.recast (n := 1) hH79 rfl ((by rw [hsp]))) rfl ((by rw [hsp] <;> simp))) rfl ((by rw [hsp] <;> rfl))), by omega⟩
                  · first | (dsimp only; omega) | (show _ < _; omega)
                · skip
                  refine cond_f rfl (decide_eq_false hc69) ?_
                  refine skip (thn_n (seq (region (ops_y hH57 rfl rfl (yv_move rfl) ?_))))
                  refine ops_y hH57 rfl rfl (yv_field T.f89_0 rfl) ?_
                  refine ops_y hH57 rfl rfl (yv_load T.one2 rfl (fun _ hw => Heap.cellw hw (n := 5) rfl rfl)) ?_
                  refine ops_y hH57 rfl rfl (yv_eql rfl rfl) ?_
                  refine ops_nil (thn_n ?_)
                  by_cases hc80 : (Q.K l i k (i + j)) = ((Q.spS l i k j).c)
                  · skip
                    have hsp0 := Q.sp_eq (w := l) (i := i) (k := k) (j := j) (by omega) (by omega)
                    have hj1 : 1 ≤ j := Nat.pos_of_ne_zero fun h => by (subst h; have h9 : (Q.spS l i k 0).r.length = 0 := rfl; omega)
                    have hfl1 := hfl hj1
                    refine cond_t rfl (decide_eq_true hc80) ?_
                    refine seq (seq (region (ops_y hH57 rfl rfl (yv_move rfl) ?_)))
                    refine ops_y hH57 rfl rfl (yv_field T.f89_1 rfl) ?_
                    refine ops_y hH57 rfl rfl (yv_load T.one22 rfl (fun _ hw => Heap.cellw hw (n := 5) rfl rfl)) ?_
                    refine op_fnV rfl rfl rfl hH57 (c51 (Heap.rdw T.el22_encI hH57 (n := 0) rfl) (Heap.rdw T.el22_encI hH57 (n := 4) rfl) (by omega) (by omega)) (fun w81 hH82 => ?_)
                    refine ops_nil (thn_n ?_)
                    by_cases hc83 : Q.cmpL (Q.tre l i k j) ((Q.spS l i k j).f) < 0
                    · skip
                      have hsp := hsp0
                      rw [if_pos ‹_›] at hsp
                      refine cond_t rfl (decide_eq_true hc83) ?_
                      refine region (ops_y hH82 rfl rfl (yv_move rfl) ?_)
                      refine ops_y hH82 rfl rfl (yv_field T.f89_1 rfl) ?_
                      refine op_store (n := 5) (j := 1) (us := [u52]) rfl rfl hH82 rfl T.sz22 (SliceIs.cells (Heap.rdw T.el22_encI hH82 (n := 0) rfl).is) rfl rfl (SliceIs.one (Heap.rdw T.el22_encI hH82 (n := 0) rfl).is) (fun w84 hH85 => ?_)
                      refine ops_nil (thn_n (seq (region ?_)))
                      refine ops_y hH85 rfl rfl (yv_field T.f89_2 rfl) ?_
                      refine ops_y hH85 rfl rfl (yv_load T.one2 rfl (fun _ hw => Heap.cellw hw (n := 5) rfl rfl)) ?_
                      refine ops_y hH85 rfl rfl (yv_move rfl) ?_
                      refine ops_y hH85 rfl rfl (yv_cast (show _ = (((Q.spS l i k j).m + Q.mny l i k j : Nat) : Int) by push_cast; rfl) (yv_add rfl rfl (by omega))) ?_
                      refine ops_y hH85 rfl rfl (yv_field T.f89_2 rfl) ?_
                      refine op_store (n := 5) (j := 2) (us := [(.int .i64 (((Q.spS l i k j).m + Q.mny l i k j : Nat) : Int))]) rfl rfl hH85 rfl T.sz2 rfl rfl rfl (by rfl) (fun w86 hH87 => ?_)
                      refine ops_nil (thn_n (region ?_))
                      refine op_lit (us := []) T.el22_encI ([] : List Int) rfl (by decide) rfl (fun a ha => by simp) (fun w => by kernel_rfl) hH87 (fun u88 lo90 hi91 w89 hH92 => ?_)
                      refine ops_y hH92 rfl rfl (yv_field T.f89_3 rfl) ?_
                      refine ops_y hH92 rfl rfl (yv_load T.one22 rfl (fun _ hw => Heap.cellw hw (n := 6) rfl rfl)) ?_
                      refine op_append (n := 0) T.el22_encI rfl rfl rfl hH92 rfl (Heap.rdw T.el22_encI hH92 (n := 4) rfl) (by first | omega | (simp only [List.length_append, List.length_cons, List.length_nil]; omega)) (fun u93 lo95 hi96 w94 hH97 => ?_)
                      refine ops_y hH97 rfl rfl (yv_move rfl) ?_
                      refine op_lit (us := [(0, (.int .i64 ((i + j : Nat) : Int)))]) T.el22_encI [((i + j : Nat) : Int)] rfl (by decide) rfl (fun a ha => by simp [ha.ev (show ev _ (.tmp 103) = some _ from rfl)]) (fun w => by kernel_rfl) hH97 (fun u98 lo100 hi101 w99 hH102 => ?_)
                      refine op_append (n := 1) T.el22_encI rfl rfl rfl hH102 rfl (Heap.rdw T.el22_encI hH102 (n := 0) rfl) (by first | omega | (simp only [List.length_append, List.length_cons, List.length_nil]; omega)) (fun u103 lo105 hi106 w104 hH107 => ?_)
                      refine ops_y hH107 rfl rfl (yv_field T.f89_3 rfl) ?_
                      refine op_store (n := 7) (j := 3) (us := [u103]) rfl rfl hH107 rfl T.sz22 (SliceIs.cells (Heap.rdw T.el22_encI hH107 (n := 1) rfl).is) rfl rfl (SliceIs.one (Heap.rdw T.el22_encI hH107 (n := 1) rfl).is) (fun w108 hH109 => ?_)
                      refine ops_nil (blk_n (thn_n (region (ops_y hH109 rfl rfl (yv_move rfl) ?_))))
                      refine ops_y hH109 rfl rfl (yv_add rfl rfl (by omega)) ?_
                      refine ops_y hH109 rfl rfl (yv_assign rfl) (ops_nil ?_)
                      have hH110 := (hH109.sub (List.Sublist.cons _ (List.Sublist.cons_cons _ (List.Sublist.cons_cons _ (List.Sublist.cons _ (List.Sublist.cons _ (List.Sublist.cons _ (List.Sublist.cons _ (List.Sublist.refl _)))))))))
                      refine lp_n (j + 1, u52, lo53, hi54, u103, lo105, hi106) (Sub.cons rfl (Sub.cons (congrArg (fun z : Int => some (Value.int .i64 z)) (by omega)) (Sub.cons rfl (Sub.cons rfl (Sub.cons rfl (Sub.cons rfl (Sub.cons rfl (Sub.nil _)))))))) ?_ ?_
                      · exact ⟨(Heap.recastBx (n := 2) (Heap.recast (n := 0) (Heap.recast (n := 1) hH110 rfl ((by rw [hsp]))) rfl ((by rw [hsp] <;> simp))) rfl ((by rw [hsp] <;> rfl))), by omega⟩
                      · first | (dsimp only; omega) | (show _ < _; omega)
                    · skip
                      have hsp := hsp0
                      rw [if_neg ‹_›] at hsp
                      refine cond_f rfl (decide_eq_false hc83) ?_
                      refine skip (thn_n (seq (region ?_)))
                      refine ops_y hH82 rfl rfl (yv_field T.f89_2 rfl) ?_
                      refine ops_y hH82 rfl rfl (yv_load T.one2 rfl (fun _ hw => Heap.cellw hw (n := 5) rfl rfl)) ?_
                      refine ops_y hH82 rfl rfl (yv_move rfl) ?_
                      refine ops_y hH82 rfl rfl (yv_cast (show _ = (((Q.spS l i k j).m + Q.mny l i k j : Nat) : Int) by push_cast; rfl) (yv_add rfl rfl (by omega))) ?_
                      refine ops_y hH82 rfl rfl (yv_field T.f89_2 rfl) ?_
                      refine op_store (n := 5) (j := 2) (us := [(.int .i64 (((Q.spS l i k j).m + Q.mny l i k j : Nat) : Int))]) rfl rfl hH82 rfl T.sz2 rfl rfl rfl (by rfl) (fun w111 hH112 => ?_)
                      refine ops_nil (thn_n (region ?_))
                      refine op_lit (us := []) T.el22_encI ([] : List Int) rfl (by decide) rfl (fun a ha => by simp) (fun w => by kernel_rfl) hH112 (fun u113 lo115 hi116 w114 hH117 => ?_)
                      refine ops_y hH117 rfl rfl (yv_field T.f89_3 rfl) ?_
                      refine ops_y hH117 rfl rfl (yv_load T.one22 rfl (fun _ hw => Heap.cellw hw (n := 6) rfl rfl)) ?_
                      refine op_append (n := 0) T.el22_encI rfl rfl rfl hH117 rfl (Heap.rdw T.el22_encI hH117 (n := 4) rfl) (by first | omega | (simp only [List.length_append, List.length_cons, List.length_nil]; omega)) (fun u118 lo120 hi121 w119 hH122 => ?_)
                      refine ops_y hH122 rfl rfl (yv_move rfl) ?_
                      refine op_lit (us := [(0, (.int .i64 ((i + j : Nat) : Int)))]) T.el22_encI [((i + j : Nat) : Int)] rfl (by decide) rfl (fun a ha => by simp [ha.ev (show ev _ (.tmp 103) = some _ from rfl)]) (fun w => by kernel_rfl) hH122 (fun u123 lo125 hi126 w124 hH127 => ?_)
                      refine op_append (n := 1) T.el22_encI rfl rfl rfl hH127 rfl (Heap.rdw T.el22_encI hH127 (n := 0) rfl) (by first | omega | (simp only [List.length_append, List.length_cons, List.length_nil]; omega)) (fun u128 lo130 hi131 w129 hH132 => ?_)
                      refine ops_y hH132 rfl rfl (yv_field T.f89_3 rfl) ?_
                      refine op_store (n := 7) (j := 3) (us := [u128]) rfl rfl hH132 rfl T.sz22 (SliceIs.cells (Heap.rdw T.el22_encI hH132 (n := 1) rfl).is) rfl rfl (SliceIs.one (Heap.rdw T.el22_encI hH132 (n := 1) rfl).is) (fun w133 hH134 => ?_)
                      refine ops_nil (blk_n (thn_n (region (ops_y hH134 rfl rfl (yv_move rfl) ?_))))
                      refine ops_y hH134 rfl rfl (yv_add rfl rfl (by omega)) ?_
                      refine ops_y hH134 rfl rfl (yv_assign rfl) (ops_nil ?_)
                      have hH135 := (hH134.sub (List.Sublist.cons _ (List.Sublist.cons_cons _ (List.Sublist.cons _ (List.Sublist.cons _ (List.Sublist.cons _ (List.Sublist.cons _ (List.Sublist.refl _))))))))
                      refine lp_n (j + 1, v_b11_1, lo_b11_1, hi_b11_1, u128, lo130, hi131) (Sub.cons rfl (Sub.cons (congrArg (fun z : Int => some (Value.int .i64 z)) (by omega)) (Sub.cons rfl (Sub.cons rfl (Sub.cons rfl (Sub.cons rfl (Sub.cons rfl (Sub.nil _)))))))) ?_ ?_
                      · exact ⟨(Heap.recastBx (n := 2) (Heap.recast (n := 0) (Heap.recast (n := 1) hH135 rfl ((by rw [hsp]))) rfl ((by rw [hsp] <;> simp))) rfl ((by rw [hsp] <;> rfl))), by omega⟩
                      · first | (dsimp only; omega) | (show _ < _; omega)
                  · skip
                    have hsp := Q.sp_no (w := l) (i := i) (k := k) (j := j) (by omega) (by omega)
                    refine cond_f rfl (decide_eq_false hc80) ?_
                    refine skip (blk_n (thn_n (region (ops_y hH57 rfl rfl (yv_move rfl) ?_))))
                    refine ops_y hH57 rfl rfl (yv_add rfl rfl (by omega)) ?_
                    refine ops_y hH57 rfl rfl (yv_assign rfl) (ops_nil ?_)
                    have hH136 := (hH57.sub (List.Sublist.cons _ (List.Sublist.cons _ (List.Sublist.cons _ (List.Sublist.refl _)))))
                    refine lp_n (j + 1, v_b11_1, lo_b11_1, hi_b11_1, v_b11_3, lo_b11_3, hi_b11_3) (Sub.cons rfl (Sub.cons (congrArg (fun z : Int => some (Value.int .i64 z)) (by omega)) (Sub.cons rfl (Sub.cons rfl (Sub.cons rfl (Sub.cons rfl (Sub.cons rfl (Sub.nil _)))))))) ?_ ?_
                    · exact ⟨(Heap.recastBx (n := 2) (Heap.recast (n := 0) (Heap.recast (n := 1) hH136 rfl ((by rw [hsp]))) rfl ((by rw [hsp] <;> simp))) rfl ((by rw [hsp] <;> rfl))), by omega⟩
                    · first | (dsimp only; omega) | (show _ < _; omega)
        · skip
          refine cond_f rfl (decide_eq_false hc14) ?_
          refine exit (thn_x (lp_x (blk_here (thn_n (seq (region ?_))))))
          refine ops_y hH13 rfl rfl (yv_loadA (cs := [(.int .i64 ((Q.spS l i k j).c)), v_b11_1, (.int .i64 ((Q.spS l i k j).m : Int)), v_b11_3]) T.agg89 rfl rfl (fun _ hw => Heap.cellsw hw (n := 2) rfl (k := 0) rfl)) ?_
          refine op_store (n := 3) (j := 0) (us := [(.int .i64 ((Q.spS l i k j).c)), v_b11_1, (.int .i64 ((Q.spS l i k j).m : Int)), v_b11_3]) rfl rfl hH13 rfl T.sz89 rfl rfl rfl (all_one rfl (all_one (SliceIs.one1 (Heap.rdw T.el22_encI hH13 (n := 1) rfl).is) (all_one rfl (all_one (SliceIs.one1 (Heap.rdw T.el22_encI hH13 (n := 0) rfl).is) rfl)))) (fun w137 hH138 => ?_)
          refine ops_nil (thn_n (ret ?_))
          have hH139 := (hH138.sub (List.Sublist.cons_cons _ (List.Sublist.cons_cons _ (List.Sublist.cons _ (List.Sublist.refl _)))))
          refine fin (hH139.front (n := 3) rfl) (fun w' hf => (res1 rfl (rvA (cs := [(.int .i64 ((Q.spS l i k j).c)), v_b11_1, (.int .i64 ((Q.spS l i k j).m : Int)), v_b11_3]) rfl T.agg89 rfl (bx_cells (Heap.bxw hf (n := 3) rfl) (k := 0) rfl)))) (fun w' hf => ?_)
          obtain rfl : j = k - i := by omega
          obtain ⟨e1, e2, e3⟩ := Q.sp_all (w := l) hik
          have ho1 := Heap.own hf (n := 1) rfl
          have ho2 := Heap.own hf (n := 0) rfl
          rw [e2] at ho1
          rw [e1, e3]
          exact ⟨_, _, _, rfl, ho1, ho2⟩

end Go.Fip
