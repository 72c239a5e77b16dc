/- Walks, by program (wip/tools). -/
import Derived.Test.YtlekkopaeiblfaaWm
import Derived.Test.YtlekkopaeiblfaaSr
set_option linter.unusedVariables false
set_option linter.unusedSimpArgs false
set_option linter.unusedSectionVars false
set_option linter.unnecessarySimpa false
namespace Go.Fip
open Go.Proofs Go.RowKit

theorem c95 {g off m c n cap : Nat} {xs : List Int} {w : World} (h0 : Own 3 1 encI (.slice (some ⟨g, 0, none⟩) n cap) xs w) (hm : off + m = xs.length) (hc : m ≤ c) (hx : n = xs.length) (hn : xs.length ≤ 1000000) :
    FnM Try.prog 95 [(.slice (some ⟨g, off, none⟩) m c)].toArray w g (fun _ w => Rd encI 1 (.slice (some ⟨g, off, none⟩) m c) (xs.drop off).reverse w) := by
  refine fnM_of (args := [(.slice (some ⟨g, off, none⟩) m c)]) Try.func95 rfl (ent Try.func95 (by kernel_rfl) rfl) rfl rfl (ow_row h0 rfl) (fun hH => ?_)
  have hdl : (xs.drop off).length = m := by rw [List.length_drop]; omega
  refine seq ?_
  refine region ?_
  refine ops_y hH rfl rfl (yv_move rfl) ?_
  refine ops_y hH rfl rfl (yv_len T.sl39 rfl (rd_tail (Heap.rdw T.el39_encI hH (n := 0) rfl) (by first | omega | (simp only [List.length_set]; omega)) (by first | omega | (simp only [List.length_set]; omega)) hc).is) ?_
  refine ops_y hH rfl rfl (yv_sub rfl rfl (by omega)) ?_
  refine ops_y hH rfl rfl (yv_assign rfl) ?_
  refine ops_y hH rfl rfl (yv_assign rfl) ?_
  refine ops_nil ?_
  refine thn_n ?_
  refine block ?_
  refine loop (S := Nat × List Int) (fun (i, L) => [(2, (.int .i64 (i : Int))), (3, (.int .i64 ((m : Int) - 1 - (i : Int)))), (0, (.slice (some ⟨g, off, none⟩) m c))]) (fun (i, L) w1 => Heap [ow g (g + 1) 3 1 encI (.slice (some ⟨g, 0, none⟩) n cap) L, restL w g, restR w g] w1 ∧ L.length = xs.length ∧ i ≤ m ∧ RevAt (xs.drop off) (L.drop off) i) (fun (i, L) => m - i) (0, xs) (Sub.cons rfl (Sub.cons (congrArg (fun z => some (Value.int .i64 z)) (by omega)) (Sub.cons rfl (Sub.nil _)))) ?_ ?_
  · exact ⟨hH, rfl, by omega, RevAt.start _⟩
  · rintro ⟨i, L⟩ w1 ⟨hH2, hL, him, hR⟩
    show Holds _ _ _ _ _ [(2, (.int .i64 (i : Int))), (3, (.int .i64 ((m : Int) - 1 - (i : Int)))), (0, (.slice (some ⟨g, off, none⟩) m c))] _ _
    have hLd : (L.drop off).length = m := by rw [List.length_drop]; omega
    refine seq ?_
    refine seq ?_
    refine region ?_
    refine ops_y hH2 rfl rfl (yv_move rfl) ?_
    refine ops_y hH2 rfl rfl (yv_move rfl) ?_
    refine ops_y hH2 rfl rfl (yv_lss rfl rfl) ?_
    refine ops_nil ?_
    refine thn_n ?_
    by_cases hc3 : (i : Int) < ((m : Int) - 1 - (i : Int))
    · skip
      have hij : i < (xs.drop off).length - 1 - i := by omega
      have hstep0 := hR.step hij
      have hstep := rev_set (L := L) (off := off) (i := i) (j := (m : Int) - 1 - (i : Int)) (by omega) (by rw [hdl]; omega) hstep0
      refine cond_t rfl (decide_eq_true hc3) ?_
      refine skip ?_
      refine thn_n ?_
      refine seq ?_
      refine block ?_
      refine region_draw (fun w' => True) T.mixed (fun w4 hr5 => ?_)
      have hH6 := hH2.redrawn hr5
      refine any_takes [0, 1, 2, 3, 4, 5, 6, 8, 9, 10] (by kernel_rfl) trivial _ _ _ (by kernel_rfl) ?_
      refine qs_y rfl rfl (yv_move rfl) ?_
      refine qs_y rfl rfl (yv_move rfl) ?_
      refine qs_y rfl rfl (yv_move rfl) ?_
      refine qs_y rfl rfl (yv_move rfl) ?_
      refine qs_y rfl rfl (yv_move rfl) ?_
      refine qs_y rfl rfl (yv_move rfl) ?_
      refine qs_y rfl rfl (yv_index T.sl39 rfl rfl (rd_tail (Heap.rdw T.el39_encI hH6 (n := 0) rfl) (by first | omega | (simp only [List.length_set]; omega)) (by first | omega | (simp only [List.length_set]; omega)) hc).is (by omega)) ?_
      refine qs_y rfl rfl (yv_move rfl) ?_
      refine qs_y rfl rfl (yv_move rfl) ?_
      refine qs_y rfl rfl (yv_index T.sl39 rfl rfl (rd_tail (Heap.rdw T.el39_encI hH6 (n := 0) rfl) (by first | omega | (simp only [List.length_set]; omega)) (by first | omega | (simp only [List.length_set]; omega)) hc).is (by omega)) ?_
      refine qs_nil ?_
      refine any_all [7, 11] (by kernel_rfl) rfl ?_
      refine ⟨⟨_, rfl, ?_⟩, ⟨_, rfl, ?_⟩, trivial⟩
      · skip
        refine ops_y hH6 rfl rfl (yv_load T.one3 rfl (fun _ hw => Rd.at (rd_tail (Heap.rdw T.el39_encI hw (n := 0) rfl) (by first | omega | (simp only [List.length_set]; omega)) (by first | omega | (simp only [List.length_set]; omega)) hc) (i := ((m : Int) - 1 - (i : Int))) (by omega) (j := 0) rfl)) ?_
        refine ops_nil ?_
        refine ⟨trivial, ?_⟩
        refine any_all [11] (by kernel_rfl) rfl ?_
        refine ⟨⟨_, rfl, ?_⟩, trivial⟩
        · skip
          refine ops_y hH6 rfl rfl (yv_load T.one3 rfl (fun _ hw => Rd.at (rd_tail (Heap.rdw T.el39_encI hw (n := 0) rfl) (by first | omega | (simp only [List.length_set]; omega)) (by first | omega | (simp only [List.length_set]; omega)) hc) (i := (i : Int)) (by omega) (j := 0) rfl)) ?_
          refine ops_nil ?_
          refine ⟨trivial, ?_⟩
          refine any_takes [12] (by kernel_rfl) trivial _ _ _ (by kernel_rfl) ?_
          refine qs_y rfl rfl (yv_index T.sl39 rfl rfl (rd_tail (Heap.rdw T.el39_encI hH6 (n := 0) rfl) (by first | omega | (simp only [List.length_set]; omega)) (by first | omega | (simp only [List.length_set]; omega)) hc).is (by omega)) ?_
          refine qs_nil ?_
          refine any_all [13] (by kernel_rfl) rfl ?_
          refine ⟨⟨_, rfl, ?_⟩, trivial⟩
          · skip
            refine op_setE (s := (.slice (some ⟨g, 0, none⟩) n cap)) (n := 0) (i := ((off : Int) + (i : Int))) (k := 0) (us := [(.int .i64 (nth (L.drop off) ((m : Int) - 1 - (i : Int))))]) (z := nth (L.drop off) ((m : Int) - 1 - (i : Int))) T.el39_encI (Eq.trans (show ev _ _ = some (Value.pointer (some ⟨g, off + (i : Int).toNat * 1, none⟩)) from rfl) (congrArg (fun o => some (Value.pointer (some ⟨g, o, none⟩))) (show off + (i : Int).toNat * 1 = 0 + ((off : Int) + (i : Int)).toNat * 1 + 0 by omega))) rfl hH6 rfl (by first | omega | (simp only [List.length_set]; omega)) T.sz3 rfl rfl rfl (Nat.le_of_ble_eq_true rfl) (fun w7 hH8 => ?_)
            refine ops_nil ?_
            refine ⟨trivial, ?_⟩
            refine any_takes [14] (by kernel_rfl) trivial _ _ _ (by kernel_rfl) ?_
            refine qs_y rfl rfl (yv_index T.sl39 rfl rfl (rd_tail (Heap.rdw T.el39_encI hH8 (n := 0) rfl) (by first | omega | (simp only [List.length_set]; omega)) (by first | omega | (simp only [List.length_set]; omega)) hc).is (by simp only [List.length_drop, List.length_set]; omega)) ?_
            refine qs_nil ?_
            refine any_all [15] (by kernel_rfl) rfl ?_
            refine ⟨⟨_, rfl, ?_⟩, trivial⟩
            · skip
              refine op_setE (s := (.slice (some ⟨g, 0, none⟩) n cap)) (n := 0) (i := ((off : Int) + ((m : Int) - 1 - (i : Int)))) (k := 0) (us := [(.int .i64 (nth (L.drop off) (i : Int)))]) (z := nth (L.drop off) (i : Int)) T.el39_encI (Eq.trans (show ev _ _ = some (Value.pointer (some ⟨g, off + ((m : Int) - 1 - (i : Int)).toNat * 1, none⟩)) from rfl) (congrArg (fun o => some (Value.pointer (some ⟨g, o, none⟩))) (show off + ((m : Int) - 1 - (i : Int)).toNat * 1 = 0 + ((off : Int) + ((m : Int) - 1 - (i : Int))).toNat * 1 + 0 by omega))) rfl hH8 rfl (by first | omega | (simp only [List.length_set]; omega)) T.sz3 rfl rfl rfl (Nat.le_of_ble_eq_true rfl) (fun w9 hH10 => ?_)
              refine ops_nil ?_
              refine ⟨trivial, ?_⟩
              refine any_done (by kernel_rfl) ?_
              refine blk_n ?_
              refine thn_n ?_
              refine region ?_
              refine ops_y hH10 rfl rfl (yv_move rfl) ?_
              refine ops_y hH10 rfl rfl (yv_add rfl rfl (by omega)) ?_
              refine ops_y hH10 rfl rfl (yv_move rfl) ?_
              refine ops_y hH10 rfl rfl (yv_sub rfl rfl (by omega)) ?_
              refine ops_y hH10 rfl rfl (yv_assign rfl) ?_
              refine ops_y hH10 rfl rfl (yv_assign rfl) ?_
              refine ops_nil ?_
              refine lp_n (i + 1, ((L.set ((off : Int) + (i : Int)).toNat (nth (L.drop off) ((m : Int) - 1 - (i : Int)))).set ((off : Int) + ((m : Int) - 1 - (i : Int))).toNat (nth (L.drop off) (i : Int)))) (Sub.cons rfl (Sub.cons (congrArg (fun z => some (Value.int .i64 z)) (by omega)) (Sub.cons rfl (Sub.nil _)))) ?_ ?_
              · exact ⟨hH10, by simp; omega, by omega, hstep⟩
              · first | (dsimp only; omega) | (show _ < _; omega)
      · skip
        refine ops_y hH6 rfl rfl (yv_load T.one3 rfl (fun _ hw => Rd.at (rd_tail (Heap.rdw T.el39_encI hw (n := 0) rfl) (by first | omega | (simp only [List.length_set]; omega)) (by first | omega | (simp only [List.length_set]; omega)) hc) (i := (i : Int)) (by omega) (j := 0) rfl)) ?_
        refine ops_nil ?_
        refine ⟨trivial, ?_⟩
        refine any_all [7] (by kernel_rfl) rfl ?_
        refine ⟨⟨_, rfl, ?_⟩, trivial⟩
        · skip
          refine ops_y hH6 rfl rfl (yv_load T.one3 rfl (fun _ hw => Rd.at (rd_tail (Heap.rdw T.el39_encI hw (n := 0) rfl) (by first | omega | (simp only [List.length_set]; omega)) (by first | omega | (simp only [List.length_set]; omega)) hc) (i := ((m : Int) - 1 - (i : Int))) (by omega) (j := 0) rfl)) ?_
          refine ops_nil ?_
          refine ⟨trivial, ?_⟩
          refine any_takes [12] (by kernel_rfl) trivial _ _ _ (by kernel_rfl) ?_
          refine qs_y rfl rfl (yv_index T.sl39 rfl rfl (rd_tail (Heap.rdw T.el39_encI hH6 (n := 0) rfl) (by first | omega | (simp only [List.length_set]; omega)) (by first | omega | (simp only [List.length_set]; omega)) hc).is (by omega)) ?_
          refine qs_nil ?_
          refine any_all [13] (by kernel_rfl) rfl ?_
          refine ⟨⟨_, rfl, ?_⟩, trivial⟩
          · skip
            refine op_setE (s := (.slice (some ⟨g, 0, none⟩) n cap)) (n := 0) (i := ((off : Int) + (i : Int))) (k := 0) (us := [(.int .i64 (nth (L.drop off) ((m : Int) - 1 - (i : Int))))]) (z := nth (L.drop off) ((m : Int) - 1 - (i : Int))) T.el39_encI (Eq.trans (show ev _ _ = some (Value.pointer (some ⟨g, off + (i : Int).toNat * 1, none⟩)) from rfl) (congrArg (fun o => some (Value.pointer (some ⟨g, o, none⟩))) (show off + (i : Int).toNat * 1 = 0 + ((off : Int) + (i : Int)).toNat * 1 + 0 by omega))) rfl hH6 rfl (by first | omega | (simp only [List.length_set]; omega)) T.sz3 rfl rfl rfl (Nat.le_of_ble_eq_true rfl) (fun w11 hH12 => ?_)
            refine ops_nil ?_
            refine ⟨trivial, ?_⟩
            refine any_takes [14] (by kernel_rfl) trivial _ _ _ (by kernel_rfl) ?_
            refine qs_y rfl rfl (yv_index T.sl39 rfl rfl (rd_tail (Heap.rdw T.el39_encI hH12 (n := 0) rfl) (by first | omega | (simp only [List.length_set]; omega)) (by first | omega | (simp only [List.length_set]; omega)) hc).is (by simp only [List.length_drop, List.length_set]; omega)) ?_
            refine qs_nil ?_
            refine any_all [15] (by kernel_rfl) rfl ?_
            refine ⟨⟨_, rfl, ?_⟩, trivial⟩
            · skip
              refine op_setE (s := (.slice (some ⟨g, 0, none⟩) n cap)) (n := 0) (i := ((off : Int) + ((m : Int) - 1 - (i : Int)))) (k := 0) (us := [(.int .i64 (nth (L.drop off) (i : Int)))]) (z := nth (L.drop off) (i : Int)) T.el39_encI (Eq.trans (show ev _ _ = some (Value.pointer (some ⟨g, off + ((m : Int) - 1 - (i : Int)).toNat * 1, none⟩)) from rfl) (congrArg (fun o => some (Value.pointer (some ⟨g, o, none⟩))) (show off + ((m : Int) - 1 - (i : Int)).toNat * 1 = 0 + ((off : Int) + ((m : Int) - 1 - (i : Int))).toNat * 1 + 0 by omega))) rfl hH12 rfl (by first | omega | (simp only [List.length_set]; omega)) T.sz3 rfl rfl rfl (Nat.le_of_ble_eq_true rfl) (fun w13 hH14 => ?_)
              refine ops_nil ?_
              refine ⟨trivial, ?_⟩
              refine any_done (by kernel_rfl) ?_
              refine blk_n ?_
              refine thn_n ?_
              refine region ?_
              refine ops_y hH14 rfl rfl (yv_move rfl) ?_
              refine ops_y hH14 rfl rfl (yv_add rfl rfl (by omega)) ?_
              refine ops_y hH14 rfl rfl (yv_move rfl) ?_
              refine ops_y hH14 rfl rfl (yv_sub rfl rfl (by omega)) ?_
              refine ops_y hH14 rfl rfl (yv_assign rfl) ?_
              refine ops_y hH14 rfl rfl (yv_assign rfl) ?_
              refine ops_nil ?_
              refine lp_n (i + 1, ((L.set ((off : Int) + (i : Int)).toNat (nth (L.drop off) ((m : Int) - 1 - (i : Int)))).set ((off : Int) + ((m : Int) - 1 - (i : Int))).toNat (nth (L.drop off) (i : Int)))) (Sub.cons rfl (Sub.cons (congrArg (fun z => some (Value.int .i64 z)) (by omega)) (Sub.cons rfl (Sub.nil _)))) ?_ ?_
              · exact ⟨hH14, by simp; omega, by omega, hstep⟩
              · first | (dsimp only; omega) | (show _ < _; omega)
    · skip
      refine cond_f rfl (decide_eq_false hc3) ?_
      refine exit ?_
      refine thn_x ?_
      refine lp_x ?_
      refine blk_here ?_
      refine finM_n hH2 (res0 rfl ) (fun w' hf => ?_)
      have hd := hR.done (by omega)
      rw [← hd]; exact rd_tail (Own.rd (fun _ => rfl) hf.1) (by omega) (by omega) hc

end Go.Fip
