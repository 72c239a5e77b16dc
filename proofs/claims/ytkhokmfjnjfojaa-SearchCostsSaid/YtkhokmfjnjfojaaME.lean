/- Joined texts: Wh, Wi, Wj, Wk, Wl, Wm, Qo, Wn, Wo. -/
import Derived.Test.YtkhokmfjnjfojaaMD
import Derived.Test.YtkhokmfjnjfojaaMB
import Derived.Test.YtkhokmfjnjfojaaMC
set_option linter.unusedVariables false
set_option linter.unusedSimpArgs false
set_option linter.unusedSectionVars false
set_option linter.unnecessarySimpa false
namespace Go.Fip
open Go.Proofs Go.RowKit

theorem T.eqi112 : EqI Try.prog 112 12 := eqi_arr (i := Try.t3) Try.underlying112 (by kernel_rfl) (by kernel_rfl) (fun _ => by kernel_rfl) (by kernel_rfl) (by kernel_rfl)

theorem c59 {v : Value} {l : List Int} {w : World} {t : Q.T} {x : Nat} (h0 : Rd encI 1 v l w) (ht : Q.T.dep 0 t = l) (hx : x < l.length) (hn : l.length ≤ 12)  :
    Fn Try.prog 59 [v, (.int .i64 (x : Int))].toArray w (fun u w => Own 3 1 encI u (Q.tri t 0 x) w) := by
  refine fn_of' (args := [v, (.int .i64 (x : Int))]) Try.func59 rfl (ent Try.func59 (by kernel_rfl) rfl) rfl rfl (fun hH => ?_)
  refine seq (region (ops_y hH rfl rfl (yv_assign rfl) (ops_nil (thn_n (scope (seq (region ?_)))))))
  refine op_alloc (z := (.agg #[(.int .i64 0), (.int .i64 0), (.int .i64 0), (.int .i64 0), (.int .i64 0), (.int .i64 0), (.int .i64 0), (.int .i64 0), (.int .i64 0), (.int .i64 0), (.int .i64 0), (.int .i64 0)])) (us := [(.int .i64 0), (.int .i64 0), (.int .i64 0), (.int .i64 0), (.int .i64 0), (.int .i64 0), (.int .i64 0), (.int .i64 0), (.int .i64 0), (.int .i64 0), (.int .i64 0), (.int .i64 0)]) (fun _ => by kernel_rfl) rfl rfl hH (fun b1 w2 hH3 => ?_)
  refine ops_nil (thn_n (seq ?_))
  have hH4 := Heap.recastBx hH3 (n := 0) rfl (show [(.int .i64 0), (.int .i64 0), (.int .i64 0), (.int .i64 0), (.int .i64 0), (.int .i64 0), (.int .i64 0), (.int .i64 0), (.int .i64 0), (.int .i64 0), (.int .i64 0), (.int .i64 0)] = ints (List.replicate 12 (0 : Int)) from rfl)
  refine region ?_
  refine ops_y hH4 rfl rfl (yv_all T.arr112 rfl) ?_
  refine ops_y hH4 rfl rfl (yv_move rfl) ?_
  refine op_copyA T.el22_encI (C := (List.replicate 12 (0 : Int))) rfl rfl (by first | rfl | omega | simp) rfl hH4 (n := 0) rfl (h0.now hH4 (n := 1) rfl) (by omega) (fun w5 hH6 => ?_)
  refine ops_nil (thn_n (seq (seq ?_)))
  have hH7 := Heap.recastBx hH6 (n := 0) rfl (show (ints (l ++ (List.replicate 12 (0 : Int)).drop l.length)) = ints (Q.padT l) from rfl)
  have hpl := Q.padT_length hn
  refine region ?_
  refine ops_y hH7 rfl rfl (yv_loadC T.agg112 (by omega) rfl (fun _ hw => Heap.bxw hw (n := 0) rfl)) ?_
  refine ops_y hH7 rfl rfl (yv_build (v := (.agg #[(.int .i64 0), (.int .i64 0), (.int .i64 0), (.int .i64 0), (.int .i64 0), (.int .i64 0), (.int .i64 0), (.int .i64 0), (.int .i64 0), (.int .i64 0), (.int .i64 0), (.int .i64 0)])) (us := []) (fun a ha => by simp []) (fun w => by kernel_rfl)) ?_
  refine ops_y hH7 rfl rfl (yv_eqA (a := (Q.padT l)) (b := [0, 0, 0, 0, 0, 0, 0, 0, 0, 0, 0, 0]) T.eqi112 rfl rfl (by exact Q.padT_length hn) rfl) ?_
  refine ops_y hH7 rfl rfl (yv_move rfl) ?_
  by_cases hc8 : (Q.padT l) = [0, 0, 0, 0, 0, 0, 0, 0, 0, 0, 0, 0]
  · skip
    have hnz : ¬ 1 < l.length := fun h9 => Q.pad_ne ht h9 (by assumption)
    refine guard_yes rfl rfl (decide_eq_true hc8) ?_
    refine ops_y hH7 rfl rfl (yv_move rfl) ?_
    refine guard_yes rfl rfl (decide_eq_true hc8) ?_
    refine ops_y hH7 rfl rfl (yv_len T.sl22 rfl (h0.now hH7 (n := 1) rfl).is) ?_
    refine guard_yes rfl rfl (decide_eq_true hc8) ?_
    refine ops_y hH7 rfl rfl (yv_gtr rfl rfl) ?_
    refine ops_y hH7 rfl rfl (yv_pick_t rfl (decide_eq_true hc8) rfl) ?_
    refine ops_nil (thn_n ?_)
    have hc9 : ¬ (1 < (l.length : Int)) := by omega
    refine cond_f rfl (decide_eq_false hc9) ?_
    refine skip (thn_n (seq (region (ops_y hH7 rfl rfl (yv_assign rfl) (ops_nil (thn_n (seq (region (ops_y hH7 rfl rfl (yv_move rfl) ?_)))))))))
    refine ops_y hH7 rfl rfl (yv_len T.sl22 rfl (h0.now hH7 (n := 1) rfl).is) ?_
    refine ops_y hH7 rfl rfl (yv_assign rfl) (ops_y hH7 rfl rfl (yv_assign rfl) (ops_nil (thn_n (seq (label (thn_n (seq (region (ops_y hH7 rfl rfl (yv_assign rfl) ?_)))))))))
    refine ops_nil (thn_n (block ?_))
    have hH10 := ow_nil (enc := encI) 3 1 hH7
    refine loop (S := Q.T × Nat × Nat × Nat × List Int × Value × Nat × Nat) (fun (s, i, k, D, o, v_6, lo_6, hi_6) => [(7, (.int .i64 (i : Int))), (8, (.int .i64 (k : Int))), (9, (.int .i64 (D : Int))), (6, v_6), (1, (.int .i64 (x : Int))), (5, (.pointer (some ⟨b1, 0, none⟩)))]) (fun (s, i, k, D, o, v_6, lo_6, hi_6) w1 => Heap [ow lo_6 hi_6 3 1 encI v_6 o, bx b1 112 (ints (Q.padT l)), base w] w1 ∧ Q.TriI t x l s i k D o) (fun (s, i, k, D, o, v_6, lo_6, hi_6) => l.length - D) (t, 0, l.length, 0, [], (.slice none 0 0), w5.heap.size, w5.heap.size) (Sub.cons rfl (Sub.cons rfl (Sub.cons rfl (Sub.cons rfl (Sub.cons rfl (Sub.cons rfl (Sub.nil _))))))) ?_ ?_
    · exact ⟨hH10, Q.TriI.start ht hx⟩
    · rintro ⟨s, i, k, D, o, v_6, lo_6, hi_6⟩ w11 ⟨hH12, hT⟩
      show Holds _ _ _ _ _ [(7, (.int .i64 (i : Int))), (8, (.int .i64 (k : Int))), (9, (.int .i64 (D : Int))), (6, v_6), (1, (.int .i64 (x : Int))), (5, (.pointer (some ⟨b1, 0, none⟩)))] _ _
      obtain ⟨⟨hT1, hT2, hT3⟩, -, -, hT4, hT5⟩ := id hT
      obtain ⟨sl, sr, hse, hs1, hs2, hs3⟩ := hT.root
      subst hse
      refine seq (block (seq (seq (region (ops_y hH12 rfl rfl (yv_move rfl) (ops_y hH12 rfl rfl (yv_assign rfl) (ops_nil (thn_n (block ?_)))))))))
      refine loop (S := Nat × Value × Nat × Nat) (fun (a, v_6, lo_6, hi_6) => [(10, (.int .i64 (a : Int))), (7, (.int .i64 (i : Int))), (8, (.int .i64 (k : Int))), (6, v_6), (1, (.int .i64 (x : Int))), (5, (.pointer (some ⟨b1, 0, none⟩))), (9, (.int .i64 (D : Int)))]) (fun (a, v_6, lo_6, hi_6) w1 => Heap [ow lo_6 hi_6 3 1 encI v_6 o, bx b1 112 (ints (Q.padT l)), base w] w1 ∧ i ≤ a ∧ a ≤ i + sl.size) (fun (a, v_6, lo_6, hi_6) => i + sl.size - a) (i, v_6, lo_6, hi_6) (Sub.cons rfl (Sub.cons rfl (Sub.cons rfl (Sub.cons rfl (Sub.cons rfl (Sub.cons rfl (Sub.cons rfl (Sub.nil _)))))))) ?_ ?_
      · exact ⟨hH12, by omega, by omega⟩
      · rintro ⟨a, v_6, lo_6, hi_6⟩ w13 ⟨hH14, ha1, ha2⟩
        show Holds _ _ _ _ _ [(10, (.int .i64 (a : Int))), (7, (.int .i64 (i : Int))), (8, (.int .i64 (k : Int))), (6, v_6), (1, (.int .i64 (x : Int))), (5, (.pointer (some ⟨b1, 0, none⟩))), (9, (.int .i64 (D : Int)))] _ _
        refine seq (seq (region (ops_y hH14 rfl rfl (yv_move rfl) (ops_y hH14 rfl rfl (yv_move rfl) ?_))))
        refine ops_y hH14 rfl rfl (yv_lss rfl rfl) ?_
        refine ops_nil (thn_n ?_)
        by_cases hc15 : (a : Int) < (k : Int)
        · skip
          refine cond_t rfl (decide_eq_true hc15) ?_
          refine skip (thn_n (seq (block (seq (seq ?_)))))
          have hpl := Q.padT_length hn
          have hpa := Q.nth_padT (l := l) (j := a) (by omega)
          refine region (ops_y hH14 rfl rfl (yv_move rfl) ?_)
          refine ops_y hH14 rfl rfl (yv_indexA T.arr112 rfl rfl (by omega)) ?_
          refine ops_y hH14 rfl rfl (yv_loadE T.one3 rfl (by omega) (fun _ hw => Heap.bxw hw (n := 1) rfl)) ?_
          refine ops_y hH14 rfl rfl (yv_move rfl) ?_
          refine ops_y hH14 rfl rfl (yv_neq rfl rfl) ?_
          refine ops_nil (thn_n ?_)
          by_cases hc16 : (nth (Q.padT l) (a : Int)) = (D : Int)
          · skip
            refine cond_f rfl (not_decide_n hc16) ?_
            refine skip (thn_n (seq ?_))
            have hae : a = i + sl.size := by rcases Nat.lt_or_ge a (i + sl.size) with h9 | h9; (have h8 := hs3 a ha1 h9; omega); omega
            refine region (ops_y hH14 rfl rfl (yv_move rfl) (ops_y hH14 rfl rfl (yv_move rfl) ?_))
            refine ops_y hH14 rfl rfl (yv_len T.sl22 rfl (Heap.rdw T.el22_encI hH14 (n := 0) rfl).is) ?_
            refine ops_y hH14 rfl rfl (yv_move rfl) ?_
            refine ops_y hH14 rfl rfl (yv_len T.sl22 rfl (Heap.rdw T.el22_encI hH14 (n := 0) rfl).is) ?_
            refine ops_y hH14 rfl rfl (yv_cut3 T.sl22 rfl rfl rfl (Heap.rdw T.el22_encI hH14 (n := 0) rfl).is (by omega)) ?_
            refine ops_y hH14 rfl rfl (yv_move rfl) ?_
            refine op_lit (us := [(0, (.int .i64 (a : Int)))]) T.el22_encI [(a : Int)] rfl (by decide) rfl (fun a ha => by simp [ha.ev (show ev _ (.tmp 43) = some _ from rfl)]) (fun w => by kernel_rfl) hH14 (fun u17 lo19 hi20 w18 hH21 => ?_)
            obtain ⟨ac27, hce28⟩ := cut3_shape (sz := 1) (Heap.rdw T.el22_encI hH21 (n := 1) rfl).is
            refine op_append_new T.el22_encI rfl hce28 rfl rfl hH21 (Rd.cut3n (Heap.rdw T.el22_encI hH21 (n := 1) rfl) ) (Heap.rdw T.el22_encI hH21 (n := 0) rfl) (by simp) (by first | omega | (simp only [List.length_append, List.length_cons, List.length_nil]; omega)) (fun u29 lo31 hi32 w30 hH33 => ?_)
            refine ops_y hH33 rfl rfl (yv_assign rfl) (ops_nil (thn_n (seq (block (seq (region (ops_y hH33 rfl rfl (yv_move rfl) (ops_y hH33 rfl rfl (yv_move rfl) ?_))))))))
            refine ops_y hH33 rfl rfl (yv_lss rfl rfl) ?_
            refine ops_y hH33 rfl rfl (yv_assign rfl) (ops_nil (thn_n ?_))
            by_cases hc34 : (a : Int) < (x : Int)
            · skip
              refine cond_t rfl (decide_eq_true hc34) ?_
              have hlt : i + sl.size < x := by omega
              refine region (ops_y hH33 rfl rfl (yv_move rfl) ?_)
              refine ops_y hH33 rfl rfl (yv_add rfl rfl (by omega)) ?_
              refine ops_y hH33 rfl rfl (yv_assign rfl) (ops_nil (blk_n (thn_n (exit (blk_on rfl (thn_x (lp_x (blk_on rfl (thn_x ?_)))))))))
              refine blk_here (thn_n (region (ops_y hH33 rfl rfl (yv_move rfl) ?_)))
              refine ops_y hH33 rfl rfl (yv_add rfl rfl (by omega)) ?_
              refine ops_y hH33 rfl rfl (yv_assign rfl) (ops_nil ?_)
              have hH35 := (hH33.sub (List.Sublist.cons_cons _ (List.Sublist.cons _ (List.Sublist.cons _ (List.Sublist.refl _)))))
              refine lp_n (sr, (a + 1), k, (D + 1), (o ++ [(a : Int)]), u29, lo31, hi32) (Sub.cons rfl (Sub.cons rfl (Sub.cons rfl (Sub.cons rfl (Sub.cons rfl (Sub.cons rfl (Sub.nil _))))))) ?_ ?_
              · exact ⟨(Heap.recast (n := 0) hH35 rfl (rfl)), (by rw [hae]; exact hT.right (by omega))⟩
              · (have h9 := hT.2.2.2.2; simp only [Q.T.size] at h9; first | omega | (dsimp only; omega))
            · skip
              refine cond_f rfl (decide_eq_false hc34) ?_
              refine seq (region (ops_y hH33 rfl rfl (yv_move rfl) (ops_y hH33 rfl rfl (yv_move rfl) ?_)))
              refine ops_y hH33 rfl rfl (yv_gtr rfl rfl) ?_
              refine ops_y hH33 rfl rfl (yv_assign rfl) (ops_nil (thn_n ?_))
              by_cases hc36 : (x : Int) < (a : Int)
              · skip
                refine cond_t rfl (decide_eq_true hc36) ?_
                refine region (ops_y hH33 rfl rfl (yv_move rfl) (ops_y hH33 rfl rfl (yv_assign rfl) (ops_nil (blk_n (thn_n (exit (blk_on rfl (thn_x (lp_x ?_)))))))))
                refine blk_on rfl (thn_x (blk_here (thn_n (region (ops_y hH33 rfl rfl (yv_move rfl) ?_)))))
                refine ops_y hH33 rfl rfl (yv_add rfl rfl (by omega)) ?_
                refine ops_y hH33 rfl rfl (yv_assign rfl) (ops_nil ?_)
                have hH37 := (hH33.sub (List.Sublist.cons_cons _ (List.Sublist.cons _ (List.Sublist.cons _ (List.Sublist.refl _)))))
                refine lp_n (sl, i, a, (D + 1), (o ++ [(a : Int)]), u29, lo31, hi32) (Sub.cons rfl (Sub.cons rfl (Sub.cons rfl (Sub.cons rfl (Sub.cons rfl (Sub.cons rfl (Sub.nil _))))))) ?_ ?_
                · exact ⟨(Heap.recast (n := 0) hH37 rfl (rfl)), (by rw [hae]; exact hT.left (by omega))⟩
                · (have h9 := hT.2.2.2.2; simp only [Q.T.size] at h9; first | omega | (dsimp only; omega))
              · skip
                refine cond_f rfl (decide_eq_false hc36) ?_
                refine seq (region (ops_y hH33 rfl rfl (yv_move rfl) (ops_y hH33 rfl rfl (yv_assign rfl) (ops_nil (thn_n (ret (blk_r (thn_r (blk_r ?_)))))))))
                refine thn_r (lp_r (blk_r (thn_r (blk_r (thn_r (lp_r (blk_r (scp_r ?_))))))))
                have hH38 := (hH33.sub (List.Sublist.cons_cons _ (List.Sublist.cons _ (List.Sublist.cons _ (List.Sublist.cons _ (List.Sublist.refl _))))))
                refine fin (hH38.front (n := 1) rfl) (fun w' hf => (res1 rfl (show RV _ _ _ (.tmp 4) _ from rfl))) (fun w' hf => ?_)
                first | (exfalso; omega) | (rw [← hT.hit (by omega), ← hae]; exact Heap.own hf (n := 0) rfl)
          · skip
            have hne9 : ¬ nth l (a : Int) = (D : Int) := by omega
            have halt : a < i + sl.size := Nat.lt_of_not_le fun h9 => by
              have h8 : a = i + sl.size := Nat.le_antisymm ha2 h9
              rw [h8] at hne9
              exact hne9 hs2
            refine cond_t rfl (not_decide_t hc16) ?_
            refine exit (thn_x (blk_here (thn_n (region (ops_y hH14 rfl rfl (yv_move rfl) ?_)))))
            refine ops_y hH14 rfl rfl (yv_add rfl rfl (by omega)) ?_
            refine ops_y hH14 rfl rfl (yv_assign rfl) (ops_nil ?_)
            refine lp_n (a + 1, v_6, lo_6, hi_6) (Sub.cons rfl (Sub.cons rfl (Sub.cons rfl (Sub.cons rfl (Sub.cons rfl (Sub.cons rfl (Sub.cons rfl (Sub.nil _)))))))) ?_ ?_
            · exact ⟨hH14, by omega, by omega⟩
            · first | (dsimp only; omega) | (show _ < _; omega)
        · skip
          refine cond_f rfl (decide_eq_false hc15) ?_
          refine exit (thn_x (lp_x (blk_here (thn_n (seq (region (ops_y hH14 rfl rfl (yv_move rfl) (ops_y hH14 rfl rfl (yv_assign rfl) (ops_nil ?_)))))))))
          refine thn_n (ret (blk_r (thn_r (lp_r (blk_r (scp_r ?_))))))
          have hH39 := (hH14.sub (List.Sublist.cons_cons _ (List.Sublist.cons _ (List.Sublist.refl _))))
          refine fin (hH39.front (n := 1) rfl) (fun w' hf => (res1 rfl (show RV _ _ _ (.tmp 4) _ from rfl))) (fun w' hf => ?_)
          first | (exfalso; omega) | (rw [← hT.hit (by omega), ← hae]; exact Heap.own hf (n := 0) rfl)
  · skip
    refine guard_no rfl rfl (decide_eq_false hc8) rfl ?_
    refine guard_no rfl rfl (decide_eq_false hc8) rfl ?_
    refine guard_no rfl rfl (decide_eq_false hc8) rfl ?_
    refine ops_y hH7 rfl rfl (yv_pick_f rfl (decide_eq_false hc8) rfl) ?_
    refine ops_nil (thn_n ?_)
    refine cond_f rfl rfl ?_
    refine skip (thn_n (seq (region (ops_y hH7 rfl rfl (yv_assign rfl) (ops_nil (thn_n (seq (region (ops_y hH7 rfl rfl (yv_move rfl) ?_)))))))))
    refine ops_y hH7 rfl rfl (yv_len T.sl22 rfl (h0.now hH7 (n := 1) rfl).is) ?_
    refine ops_y hH7 rfl rfl (yv_assign rfl) (ops_y hH7 rfl rfl (yv_assign rfl) (ops_nil (thn_n (seq (label (thn_n (seq (region (ops_y hH7 rfl rfl (yv_assign rfl) ?_)))))))))
    refine ops_nil (thn_n (block ?_))
    have hH40 := ow_nil (enc := encI) 3 1 hH7
    refine loop (S := Q.T × Nat × Nat × Nat × List Int × Value × Nat × Nat) (fun (s, i, k, D, o, v_6, lo_6, hi_6) => [(7, (.int .i64 (i : Int))), (8, (.int .i64 (k : Int))), (9, (.int .i64 (D : Int))), (6, v_6), (1, (.int .i64 (x : Int))), (5, (.pointer (some ⟨b1, 0, none⟩)))]) (fun (s, i, k, D, o, v_6, lo_6, hi_6) w1 => Heap [ow lo_6 hi_6 3 1 encI v_6 o, bx b1 112 (ints (Q.padT l)), base w] w1 ∧ Q.TriI t x l s i k D o) (fun (s, i, k, D, o, v_6, lo_6, hi_6) => l.length - D) (t, 0, l.length, 0, [], (.slice none 0 0), w5.heap.size, w5.heap.size) (Sub.cons rfl (Sub.cons rfl (Sub.cons rfl (Sub.cons rfl (Sub.cons rfl (Sub.cons rfl (Sub.nil _))))))) ?_ ?_
    · exact ⟨hH40, Q.TriI.start ht hx⟩
    · rintro ⟨s, i, k, D, o, v_6, lo_6, hi_6⟩ w41 ⟨hH42, hT⟩
      show Holds _ _ _ _ _ [(7, (.int .i64 (i : Int))), (8, (.int .i64 (k : Int))), (9, (.int .i64 (D : Int))), (6, v_6), (1, (.int .i64 (x : Int))), (5, (.pointer (some ⟨b1, 0, none⟩)))] _ _
      obtain ⟨⟨hT1, hT2, hT3⟩, -, -, hT4, hT5⟩ := id hT
      obtain ⟨sl, sr, hse, hs1, hs2, hs3⟩ := hT.root
      subst hse
      refine seq (block (seq (seq (region (ops_y hH42 rfl rfl (yv_move rfl) (ops_y hH42 rfl rfl (yv_assign rfl) (ops_nil (thn_n (block ?_)))))))))
      refine loop (S := Nat × Value × Nat × Nat) (fun (a, v_6, lo_6, hi_6) => [(10, (.int .i64 (a : Int))), (7, (.int .i64 (i : Int))), (8, (.int .i64 (k : Int))), (6, v_6), (1, (.int .i64 (x : Int))), (5, (.pointer (some ⟨b1, 0, none⟩))), (9, (.int .i64 (D : Int)))]) (fun (a, v_6, lo_6, hi_6) w1 => Heap [ow lo_6 hi_6 3 1 encI v_6 o, bx b1 112 (ints (Q.padT l)), base w] w1 ∧ i ≤ a ∧ a ≤ i + sl.size) (fun (a, v_6, lo_6, hi_6) => i + sl.size - a) (i, v_6, lo_6, hi_6) (Sub.cons rfl (Sub.cons rfl (Sub.cons rfl (Sub.cons rfl (Sub.cons rfl (Sub.cons rfl (Sub.cons rfl (Sub.nil _)))))))) ?_ ?_
      · exact ⟨hH42, by omega, by omega⟩
      · rintro ⟨a, v_6, lo_6, hi_6⟩ w43 ⟨hH44, ha1, ha2⟩
        show Holds _ _ _ _ _ [(10, (.int .i64 (a : Int))), (7, (.int .i64 (i : Int))), (8, (.int .i64 (k : Int))), (6, v_6), (1, (.int .i64 (x : Int))), (5, (.pointer (some ⟨b1, 0, none⟩))), (9, (.int .i64 (D : Int)))] _ _
        refine seq (seq (region (ops_y hH44 rfl rfl (yv_move rfl) (ops_y hH44 rfl rfl (yv_move rfl) ?_))))
        refine ops_y hH44 rfl rfl (yv_lss rfl rfl) ?_
        refine ops_nil (thn_n ?_)
        by_cases hc45 : (a : Int) < (k : Int)
        · skip
          refine cond_t rfl (decide_eq_true hc45) ?_
          refine skip (thn_n (seq (block (seq (seq ?_)))))
          have hpl := Q.padT_length hn
          have hpa := Q.nth_padT (l := l) (j := a) (by omega)
          refine region (ops_y hH44 rfl rfl (yv_move rfl) ?_)
          refine ops_y hH44 rfl rfl (yv_indexA T.arr112 rfl rfl (by omega)) ?_
          refine ops_y hH44 rfl rfl (yv_loadE T.one3 rfl (by omega) (fun _ hw => Heap.bxw hw (n := 1) rfl)) ?_
          refine ops_y hH44 rfl rfl (yv_move rfl) ?_
          refine ops_y hH44 rfl rfl (yv_neq rfl rfl) ?_
          refine ops_nil (thn_n ?_)
          by_cases hc46 : (nth (Q.padT l) (a : Int)) = (D : Int)
          · skip
            refine cond_f rfl (not_decide_n hc46) ?_
            refine skip (thn_n (seq ?_))
            have hae : a = i + sl.size := by rcases Nat.lt_or_ge a (i + sl.size) with h9 | h9; (have h8 := hs3 a ha1 h9; omega); omega
            refine region (ops_y hH44 rfl rfl (yv_move rfl) (ops_y hH44 rfl rfl (yv_move rfl) ?_))
            refine ops_y hH44 rfl rfl (yv_len T.sl22 rfl (Heap.rdw T.el22_encI hH44 (n := 0) rfl).is) ?_
            refine ops_y hH44 rfl rfl (yv_move rfl) ?_
            refine ops_y hH44 rfl rfl (yv_len T.sl22 rfl (Heap.rdw T.el22_encI hH44 (n := 0) rfl).is) ?_
            refine ops_y hH44 rfl rfl (yv_cut3 T.sl22 rfl rfl rfl (Heap.rdw T.el22_encI hH44 (n := 0) rfl).is (by omega)) ?_
            refine ops_y hH44 rfl rfl (yv_move rfl) ?_
            refine op_lit (us := [(0, (.int .i64 (a : Int)))]) T.el22_encI [(a : Int)] rfl (by decide) rfl (fun a ha => by simp [ha.ev (show ev _ (.tmp 43) = some _ from rfl)]) (fun w => by kernel_rfl) hH44 (fun u47 lo49 hi50 w48 hH51 => ?_)
            obtain ⟨ac57, hce58⟩ := cut3_shape (sz := 1) (Heap.rdw T.el22_encI hH51 (n := 1) rfl).is
            refine op_append_new T.el22_encI rfl hce58 rfl rfl hH51 (Rd.cut3n (Heap.rdw T.el22_encI hH51 (n := 1) rfl) ) (Heap.rdw T.el22_encI hH51 (n := 0) rfl) (by simp) (by first | omega | (simp only [List.length_append, List.length_cons, List.length_nil]; omega)) (fun u59 lo61 hi62 w60 hH63 => ?_)
            refine ops_y hH63 rfl rfl (yv_assign rfl) (ops_nil (thn_n (seq (block (seq (region (ops_y hH63 rfl rfl (yv_move rfl) (ops_y hH63 rfl rfl (yv_move rfl) ?_))))))))
            refine ops_y hH63 rfl rfl (yv_lss rfl rfl) ?_
            refine ops_y hH63 rfl rfl (yv_assign rfl) (ops_nil (thn_n ?_))
            by_cases hc64 : (a : Int) < (x : Int)
            · skip
              refine cond_t rfl (decide_eq_true hc64) ?_
              have hlt : i + sl.size < x := by omega
              refine region (ops_y hH63 rfl rfl (yv_move rfl) ?_)
              refine ops_y hH63 rfl rfl (yv_add rfl rfl (by omega)) ?_
              refine ops_y hH63 rfl rfl (yv_assign rfl) (ops_nil (blk_n (thn_n (exit (blk_on rfl (thn_x (lp_x (blk_on rfl (thn_x ?_)))))))))
              refine blk_here (thn_n (region (ops_y hH63 rfl rfl (yv_move rfl) ?_)))
              refine ops_y hH63 rfl rfl (yv_add rfl rfl (by omega)) ?_
              refine ops_y hH63 rfl rfl (yv_assign rfl) (ops_nil ?_)
              have hH65 := (hH63.sub (List.Sublist.cons_cons _ (List.Sublist.cons _ (List.Sublist.cons _ (List.Sublist.refl _)))))
              refine lp_n (sr, (a + 1), k, (D + 1), (o ++ [(a : Int)]), u59, lo61, hi62) (Sub.cons rfl (Sub.cons rfl (Sub.cons rfl (Sub.cons rfl (Sub.cons rfl (Sub.cons rfl (Sub.nil _))))))) ?_ ?_
              · exact ⟨(Heap.recast (n := 0) hH65 rfl (rfl)), (by rw [hae]; exact hT.right (by omega))⟩
              · (have h9 := hT.2.2.2.2; simp only [Q.T.size] at h9; first | omega | (dsimp only; omega))
            · skip
              refine cond_f rfl (decide_eq_false hc64) ?_
              refine seq (region (ops_y hH63 rfl rfl (yv_move rfl) (ops_y hH63 rfl rfl (yv_move rfl) ?_)))
              refine ops_y hH63 rfl rfl (yv_gtr rfl rfl) ?_
              refine ops_y hH63 rfl rfl (yv_assign rfl) (ops_nil (thn_n ?_))
              by_cases hc66 : (x : Int) < (a : Int)
              · skip
                refine cond_t rfl (decide_eq_true hc66) ?_
                refine region (ops_y hH63 rfl rfl (yv_move rfl) (ops_y hH63 rfl rfl (yv_assign rfl) (ops_nil (blk_n (thn_n (exit (blk_on rfl (thn_x (lp_x ?_)))))))))
                refine blk_on rfl (thn_x (blk_here (thn_n (region (ops_y hH63 rfl rfl (yv_move rfl) ?_)))))
                refine ops_y hH63 rfl rfl (yv_add rfl rfl (by omega)) ?_
                refine ops_y hH63 rfl rfl (yv_assign rfl) (ops_nil ?_)
                have hH67 := (hH63.sub (List.Sublist.cons_cons _ (List.Sublist.cons _ (List.Sublist.cons _ (List.Sublist.refl _)))))
                refine lp_n (sl, i, a, (D + 1), (o ++ [(a : Int)]), u59, lo61, hi62) (Sub.cons rfl (Sub.cons rfl (Sub.cons rfl (Sub.cons rfl (Sub.cons rfl (Sub.cons rfl (Sub.nil _))))))) ?_ ?_
                · exact ⟨(Heap.recast (n := 0) hH67 rfl (rfl)), (by rw [hae]; exact hT.left (by omega))⟩
                · (have h9 := hT.2.2.2.2; simp only [Q.T.size] at h9; first | omega | (dsimp only; omega))
              · skip
                refine cond_f rfl (decide_eq_false hc66) ?_
                refine seq (region (ops_y hH63 rfl rfl (yv_move rfl) (ops_y hH63 rfl rfl (yv_assign rfl) (ops_nil (thn_n (ret (blk_r (thn_r (blk_r ?_)))))))))
                refine thn_r (lp_r (blk_r (thn_r (blk_r (thn_r (lp_r (blk_r (scp_r ?_))))))))
                have hH68 := (hH63.sub (List.Sublist.cons_cons _ (List.Sublist.cons _ (List.Sublist.cons _ (List.Sublist.cons _ (List.Sublist.refl _))))))
                refine fin (hH68.front (n := 1) rfl) (fun w' hf => (res1 rfl (show RV _ _ _ (.tmp 4) _ from rfl))) (fun w' hf => ?_)
                first | (exfalso; omega) | (rw [← hT.hit (by omega), ← hae]; exact Heap.own hf (n := 0) rfl)
          · skip
            have hne9 : ¬ nth l (a : Int) = (D : Int) := by omega
            have halt : a < i + sl.size := Nat.lt_of_not_le fun h9 => by
              have h8 : a = i + sl.size := Nat.le_antisymm ha2 h9
              rw [h8] at hne9
              exact hne9 hs2
            refine cond_t rfl (not_decide_t hc46) ?_
            refine exit (thn_x (blk_here (thn_n (region (ops_y hH44 rfl rfl (yv_move rfl) ?_)))))
            refine ops_y hH44 rfl rfl (yv_add rfl rfl (by omega)) ?_
            refine ops_y hH44 rfl rfl (yv_assign rfl) (ops_nil ?_)
            refine lp_n (a + 1, v_6, lo_6, hi_6) (Sub.cons rfl (Sub.cons rfl (Sub.cons rfl (Sub.cons rfl (Sub.cons rfl (Sub.cons rfl (Sub.cons rfl (Sub.nil _)))))))) ?_ ?_
            · exact ⟨hH44, by omega, by omega⟩
            · first | (dsimp only; omega) | (show _ < _; omega)
        · skip
          refine cond_f rfl (decide_eq_false hc45) ?_
          refine exit (thn_x (lp_x (blk_here (thn_n (seq (region (ops_y hH44 rfl rfl (yv_move rfl) (ops_y hH44 rfl rfl (yv_assign rfl) (ops_nil ?_)))))))))
          refine thn_n (ret (blk_r (thn_r (lp_r (blk_r (scp_r ?_))))))
          have hH69 := (hH44.sub (List.Sublist.cons_cons _ (List.Sublist.cons _ (List.Sublist.refl _))))
          refine fin (hH69.front (n := 1) rfl) (fun w' hf => (res1 rfl (show RV _ _ _ (.tmp 4) _ from rfl))) (fun w' hf => ?_)
          first | (exfalso; omega) | (rw [← hT.hit (by omega), ← hae]; exact Heap.own hf (n := 0) rfl)

end Go.Fip

set_option linter.unusedVariables false
set_option linter.unusedSimpArgs false
set_option linter.unusedSectionVars false
set_option linter.unnecessarySimpa false
namespace Go.Fip
open Go.Proofs Go.RowKit

theorem c17 {v : Value} {l : List Int} {a : Int} {w : World} (h0 : Rd encI 1 v l w) (hn : l.length ≤ 1000000) (hx : Q.Up l)  :
    Fn Try.prog 17 [v, (.int .i64 a)].toArray w (fun u w => ∃ q, u = .tuple #[q, .int .i64 (Q.trialsR l a).2] ∧ Own 3 1 encI q (Q.trialsR l a).1 w) := by
  refine fn_of' (args := [v, (.int .i64 a)]) Try.func17 rfl (ent Try.func17 (by kernel_rfl) rfl) rfl rfl (fun hH => ?_)
  refine seq (region (ops_y hH rfl rfl (yv_assign rfl) (ops_y hH rfl rfl (yv_assign rfl) (ops_nil (thn_n (seq (region (ops_y hH rfl rfl (yv_move rfl) ?_))))))))
  refine op_fnV rfl rfl rfl hH (c19 (h0.now hH (n := 0) rfl) (by omega) (by first | assumption | decide)) (fun w1 hH2 => ?_)
  refine ops_y hH2 rfl rfl (yv_assign rfl) (ops_nil (thn_n (seq (block (seq (region (ops_y hH2 rfl rfl (yv_move rfl) ?_)))))))
  refine ops_y hH2 rfl rfl (yv_neq rfl rfl) ?_
  refine ops_y hH2 rfl rfl (yv_assign rfl) (ops_nil (thn_n ?_))
  by_cases hc3 : (Q.ckT l) = 0
  · skip
    have hck : Q.ckT l = 0 := by omega
    obtain ⟨hl12, -⟩ := Q.ck_tree hck
    refine cond_f rfl (not_decide_n hc3) ?_
    refine seq (region (ops_y hH2 rfl rfl (yv_move rfl) ?_))
    refine ops_y hH2 rfl rfl (yv_len T.sl22 rfl (h0.now hH2 (n := 0) rfl).is) ?_
    refine ops_y hH2 rfl rfl (yv_sub rfl rfl (by omega)) ?_
    refine ops_y hH2 rfl rfl (yv_move rfl) ?_
    refine op_lit (us := [(0, (.int .i64 a))]) T.el30_encI [a] rfl (by decide) rfl (fun a ha => by simp [ha.ev (show ev _ (.tmp 17) = some _ from rfl)]) (fun w => by kernel_rfl) hH2 (fun u4 lo6 hi7 w5 hH8 => ?_)
    refine op_fnV rfl rfl rfl hH8 (c58_1 (Heap.rdw T.el30_encI hH8 (n := 0) rfl)) (fun w9 hH10 => ?_)
    refine ops_y hH10 rfl rfl (yv_not rfl) ?_
    refine ops_y hH10 rfl rfl (yv_assign rfl) (ops_nil (thn_n ?_))
    by_cases hc11 : 0 ≤ a ∧ a ≤ (l.length : Int) - 1
    · skip
      refine cond_f rfl (not_decide_n hc11) ?_
      refine skip (blk_n (thn_n (seq (region (ops_y hH10 rfl rfl (yv_move rfl) (ops_y hH10 rfl rfl (yv_move rfl) ?_))))))
      refine op_fn rfl rfl rfl hH10 ((by have h := c59 (x := a.toNat) (h0.now hH10 (n := 1) rfl) (Q.tr_dep hck) (by omega) (by omega); rw [Int.toNat_of_nonneg (by omega)] at h; exact h)) (fun u14 w12 lo15 hi16 hH13 hv17 => ?_)
      have hH18 := Heap.toOw hH13 (n := 0) rfl
      refine ops_y hH18 rfl rfl (yv_assign rfl) (ops_y hH18 rfl rfl (yv_assign rfl) (ops_nil (thn_n (ret ?_))))
      have hH19 := (hH18.sub (List.Sublist.cons_cons _ (List.Sublist.cons _ (List.Sublist.refl _))))
      refine fin (hH19.front (n := 1) rfl) (fun w' hf => (res2 rfl (show RV _ _ _ (.tmp 4) _ from rfl) (show RV _ _ _ (.tmp 5) _ from rfl))) (fun w' hf => ?_)
      first | (rw [Q.rr1 hck9]; exact ⟨_, rfl, own_nil⟩) | (rw [Q.rr2 hck (by omega)]; exact ⟨_, rfl, own_nil⟩) | (rw [Q.rr3 hck (by omega)]; exact ⟨_, rfl, Heap.own hf (n := 0) rfl⟩)
    · skip
      refine cond_t rfl (not_decide_t hc11) ?_
      refine seq (region (ops_y hH10 rfl rfl (yv_assign rfl) (ops_y hH10 rfl rfl (yv_assign rfl) (ops_nil (thn_n (ret (blk_r (thn_r ?_))))))))
      have hH20 := (hH10.sub (List.Sublist.cons _ (List.Sublist.refl _)))
      refine fin hH20 (fun w' hf => (res2 rfl (show RV _ _ _ (.tmp 4) _ from rfl) (show RV _ _ _ (.tmp 5) _ from rfl))) (fun w' hf => ?_)
      first | (rw [Q.rr1 hck9]; exact ⟨_, rfl, own_nil⟩) | (rw [Q.rr2 hck (by omega)]; exact ⟨_, rfl, own_nil⟩) | (rw [Q.rr3 hck (by omega)]; exact ⟨_, rfl, Heap.own hf (n := 0) rfl⟩)
  · skip
    have hck9 : ¬ Q.ckT l = 0 := by omega
    refine cond_t rfl (not_decide_t hc3) ?_
    refine seq (region (ops_y hH2 rfl rfl (yv_move rfl) (ops_y hH2 rfl rfl (yv_assign rfl) (ops_y hH2 rfl rfl (yv_assign rfl) (ops_nil (thn_n (ret (blk_r (thn_r ?_)))))))))
    refine fin hH2 (fun w' hf => (res2 rfl (show RV _ _ _ (.tmp 4) _ from rfl) (show RV _ _ _ (.tmp 5) _ from rfl))) (fun w' hf => ?_)
    first | (rw [Q.rr1 hck9]; exact ⟨_, rfl, own_nil⟩) | (rw [Q.rr2 hck (by omega)]; exact ⟨_, rfl, own_nil⟩) | (rw [Q.rr3 hck (by omega)]; exact ⟨_, rfl, Heap.own hf (n := 0) rfl⟩)

theorem c18 {v : Value} {l : List Int} {a : Int} {w : World} (h0 : Rd encI 1 v l w) (hn : l.length ≤ 1000000) (hx : Q.Up l)  :
    Fn Try.prog 18 [v, (.int .i64 a)].toArray w (fun u w => ∃ q, u = .tuple #[q, .int .i64 (Q.trialsR l a).2] ∧ Own 3 1 encI q (Q.trialsR l a).1 w) := by
  refine fn_of' (args := [v, (.int .i64 a)]) Try.func18 rfl (ent Try.func18 (by kernel_rfl) rfl) rfl rfl (fun hH => ?_)
  refine seq (region (ops_y hH rfl rfl (yv_assign rfl) (ops_y hH rfl rfl (yv_assign rfl) (ops_nil (thn_n (seq (seq (region (ops_y hH rfl rfl (yv_move rfl) ?_)))))))))
  refine op_fnV rfl rfl rfl hH (c20 (h0.now hH (n := 0) rfl) (by omega) (by first | assumption | decide)) (fun w1 hH2 => ?_)
  refine ops_y hH2 rfl rfl (yv_neq rfl rfl) ?_
  refine ops_nil (thn_n ?_)
  by_cases hc3 : (Q.ckT l) = 0
  · skip
    have hck : Q.ckT l = 0 := by omega
    obtain ⟨hl12, -⟩ := Q.ck_tree hck
    refine cond_f rfl (not_decide_n hc3) ?_
    refine skip (thn_n (seq (seq (region (ops_y hH2 rfl rfl (yv_move rfl) ?_)))))
    refine ops_y hH2 rfl rfl (yv_lss rfl rfl) ?_
    refine ops_y hH2 rfl rfl (yv_move rfl) ?_
    by_cases hc4 : a < 0
    · skip
      refine guard_no rfl rfl (decide_eq_true hc4) rfl ?_
      refine guard_no rfl rfl (decide_eq_true hc4) rfl ?_
      refine guard_no rfl rfl (decide_eq_true hc4) rfl ?_
      refine guard_no rfl rfl (decide_eq_true hc4) rfl ?_
      refine ops_y hH2 rfl rfl (yv_pick_t rfl (decide_eq_true hc4) rfl) ?_
      refine ops_nil (thn_n ?_)
      refine cond_t rfl rfl ?_
      refine seq (region (ops_y hH2 rfl rfl (yv_assign rfl) (ops_y hH2 rfl rfl (yv_assign rfl) (ops_nil (thn_n (ret (thn_r ?_)))))))
      refine fin hH2 (fun w' hf => (res2 rfl (show RV _ _ _ (.tmp 4) _ from rfl) (show RV _ _ _ (.tmp 5) _ from rfl))) (fun w' hf => ?_)
      first | (rw [Q.rr1 hck9]; exact ⟨_, rfl, own_nil⟩) | (rw [Q.rr2 hck (by omega)]; exact ⟨_, rfl, own_nil⟩) | (rw [Q.rr3 hck (by omega)]; exact ⟨_, rfl, Heap.own hf (n := 0) rfl⟩)
    · skip
      refine guard_yes rfl rfl (decide_eq_false hc4) ?_
      refine ops_y hH2 rfl rfl (yv_move rfl) ?_
      refine guard_yes rfl rfl (decide_eq_false hc4) ?_
      refine ops_y hH2 rfl rfl (yv_move rfl) ?_
      refine guard_yes rfl rfl (decide_eq_false hc4) ?_
      refine ops_y hH2 rfl rfl (yv_len T.sl22 rfl (h0.now hH2 (n := 0) rfl).is) ?_
      refine guard_yes rfl rfl (decide_eq_false hc4) ?_
      refine ops_y hH2 rfl rfl (yv_geq rfl rfl) ?_
      refine ops_y hH2 rfl rfl (yv_pick_f rfl (decide_eq_false hc4) rfl) ?_
      refine ops_nil (thn_n ?_)
      by_cases hc5 : (l.length : Int) ≤ a
      · skip
        refine cond_t rfl (decide_eq_true hc5) ?_
        refine seq (region (ops_y hH2 rfl rfl (yv_assign rfl) (ops_y hH2 rfl rfl (yv_assign rfl) (ops_nil (thn_n (ret (thn_r ?_)))))))
        refine fin hH2 (fun w' hf => (res2 rfl (show RV _ _ _ (.tmp 4) _ from rfl) (show RV _ _ _ (.tmp 5) _ from rfl))) (fun w' hf => ?_)
        first | (rw [Q.rr1 hck9]; exact ⟨_, rfl, own_nil⟩) | (rw [Q.rr2 hck (by omega)]; exact ⟨_, rfl, own_nil⟩) | (rw [Q.rr3 hck (by omega)]; exact ⟨_, rfl, Heap.own hf (n := 0) rfl⟩)
      · skip
        refine cond_f rfl (decide_eq_false hc5) ?_
        refine skip (thn_n (seq (region (ops_y hH2 rfl rfl (yv_move rfl) (ops_y hH2 rfl rfl (yv_move rfl) ?_)))))
        refine op_fn rfl rfl rfl hH2 ((by have h := c60 (x := a.toNat) (h0.now hH2 (n := 0) rfl) (Q.tr_dep hck) (by omega) (by omega); rw [Int.toNat_of_nonneg (by omega)] at h; exact h)) (fun u8 w6 lo9 hi10 hH7 hv11 => ?_)
        have hH12 := Heap.toOw hH7 (n := 0) rfl
        refine ops_y hH12 rfl rfl (yv_assign rfl) (ops_y hH12 rfl rfl (yv_assign rfl) (ops_nil (thn_n (ret ?_))))
        refine fin (hH12.front (n := 1) rfl) (fun w' hf => (res2 rfl (show RV _ _ _ (.tmp 4) _ from rfl) (show RV _ _ _ (.tmp 5) _ from rfl))) (fun w' hf => ?_)
        first | (rw [Q.rr1 hck9]; exact ⟨_, rfl, own_nil⟩) | (rw [Q.rr2 hck (by omega)]; exact ⟨_, rfl, own_nil⟩) | (rw [Q.rr3 hck (by omega)]; exact ⟨_, rfl, Heap.own hf (n := 0) rfl⟩)
  · skip
    have hck9 : ¬ Q.ckT l = 0 := by omega
    refine cond_t rfl (not_decide_t hc3) ?_
    refine seq (region (ops_y hH2 rfl rfl (yv_move rfl) ?_))
    refine op_fnV rfl rfl rfl hH2 (c20 (h0.now hH2 (n := 0) rfl) (by omega) (by first | assumption | decide)) (fun w13 hH14 => ?_)
    refine ops_y hH14 rfl rfl (yv_assign rfl) (ops_y hH14 rfl rfl (yv_assign rfl) (ops_nil (thn_n (ret (thn_r ?_)))))
    refine fin hH14 (fun w' hf => (res2 rfl (show RV _ _ _ (.tmp 4) _ from rfl) (show RV _ _ _ (.tmp 5) _ from rfl))) (fun w' hf => ?_)
    first | (rw [Q.rr1 hck9]; exact ⟨_, rfl, own_nil⟩) | (rw [Q.rr2 hck (by omega)]; exact ⟨_, rfl, own_nil⟩) | (rw [Q.rr3 hck (by omega)]; exact ⟨_, rfl, Heap.own hf (n := 0) rfl⟩)

end Go.Fip

set_option linter.unusedVariables false
set_option linter.unusedSimpArgs false
set_option linter.unusedSectionVars false
set_option linter.unnecessarySimpa false
namespace Go.Fip
open Go.Proofs Go.RowKit

theorem emod_bd {a b : Int} (h : 0 < b) : 0 ≤ a % b ∧ a % b < b := ⟨Int.emod_nonneg a (by omega), Int.emod_lt_of_pos a h⟩
theorem c46r {vb : Value} {n : Nat} {b : List Int} {w : World} (hb : Rd encB 1 vb b w) (hby : Q.By b) (hbn : b.length ≤ 1000) (hn : n ≤ 12) (ih : ∀ {vb : Value} {m : Nat} {b : List Int} {w : World}, m < n → Rd encB 1 vb b w → Q.By b → b.length ≤ 1000 → Fn Try.prog 46 [.int .i64 (m : Int), vb].toArray w (fun u w => Own 3 1 encI u (Q.T.dep 0 (Q.gr m b)) w))  :
    Fn Try.prog 46 [(.int .i64 (n : Int)), vb].toArray w (fun u w => Own 3 1 encI u (Q.T.dep 0 (Q.gr n b)) w) := by
  refine fn_of' (args := [(.int .i64 (n : Int)), vb]) Try.func46 rfl (ent Try.func46 (by kernel_rfl) rfl) rfl rfl (fun hH => ?_)
  refine seq (region (ops_y hH rfl rfl (yv_assign rfl) (ops_nil (thn_n (seq (seq (region (ops_y hH rfl rfl (yv_move rfl) ?_))))))))
  refine ops_y hH rfl rfl (yv_lss rfl rfl) ?_
  refine ops_nil (thn_n ?_)
  by_cases hc1 : (n : Int) < 1
  · skip
    refine cond_t rfl (decide_eq_true hc1) ?_
    refine seq (region (ops_y hH rfl rfl (yv_assign rfl) (ops_nil (thn_n (ret (thn_r ?_))))))
    refine fin hH (fun w' hf => (res1 rfl (show RV _ _ _ (.tmp 4) _ from rfl))) (fun w' hf => ?_)
    first | (rw [show n = 0 by omega]; exact own_nil) | (rw [Q.gr_rec (by omega), ← hke, ← Q.hung_dep]; exact Heap.own hf (n := 0) rfl)
  · skip
    refine cond_f rfl (decide_eq_false hc1) ?_
    refine skip (thn_n (seq ?_))
    have hpl := Q.pick_lt (n := n) (b := b) (by omega)
    refine region (ops_y hH rfl rfl (yv_assign rfl) (ops_nil (thn_n (seq (seq (region (ops_y hH rfl rfl (yv_move rfl) ?_)))))))
    refine ops_y hH rfl rfl (yv_len T.sl44 rfl ((hb.now hH (n := 0) rfl)).is) ?_
    refine ops_y hH rfl rfl (yv_gtr rfl rfl) ?_
    refine ops_nil (thn_n ?_)
    by_cases hc2 : 0 < (b.length : Int)
    · skip
      refine cond_t rfl (decide_eq_true hc2) ?_
      have hb0 : 0 ≤ nth b 0 ∧ nth b 0 ≤ 255 := hby.at (k := 0) (by omega)
      have hmo := emod_bd (a := nth b 0) (b := (n : Int)) (by omega)
      have hat : nth b 0 % (n : Int) = (Q.pick n b : Int) := by unfold Q.pick; rw [if_pos (by omega), Int.toNat_of_nonneg hmo.1]
      have hat2 : (n : Int) - 1 - nth b 0 % (n : Int) = ((n - 1 - Q.pick n b : Nat) : Int) := by omega
      refine region (ops_y hH rfl rfl (yv_move rfl) ?_)
      refine ops_y hH rfl rfl (yv_index T.sl44 rfl rfl ((hb.now hH (n := 0) rfl)).is (by omega)) ?_
      refine ops_y hH rfl rfl (yv_load T.one5 rfl (fun _ hw => Rd.at ((hb.now hw (n := 0) rfl)) (i := 0) (by omega) (j := 0) rfl)) ?_
      refine ops_y hH rfl rfl (yv_conv Try.underlying5 Try.underlying3 rfl (wrap_i64 (by omega))) ?_
      refine ops_y hH rfl rfl (yv_move rfl) ?_
      refine ops_y hH rfl rfl (yv_rem rfl rfl (by omega) (by omega)) ?_
      refine ops_y hH rfl rfl (yv_assign rfl) (ops_nil (thn_n (seq (region (ops_y hH rfl rfl (yv_assign rfl) (ops_y hH rfl rfl (yv_assign rfl) (ops_nil (thn_n (seq ?_)))))))))
      refine seq (region (ops_y hH rfl rfl (yv_assign rfl) (ops_nil (thn_n (block ?_)))))
      have hH3 := ow_nil (enc := encB) 5 1 hH
      have hH4 := ow_nil (enc := encB) 5 1 hH3
      refine loop (S := Nat × Value × Nat × Nat × Value × Nat × Nat) (fun (k, v_6, lo_6, hi_6, v_7, lo_7, hi_7) => [(8, (.int .i64 (k : Int))), (6, v_6), (7, v_7), (0, (.int .i64 (n : Int))), (1, vb), (4, (.slice none 0 0)), (5, (.int .i64 ((nth b 0) % (n : Int))))]) (fun (k, v_6, lo_6, hi_6, v_7, lo_7, hi_7) w1 => Heap [ow lo_7 hi_7 5 1 encB v_7 (Q.evenTo b k), ow lo_6 hi_6 5 1 encB v_6 (Q.oddTo b k), base w] w1 ∧ 1 ≤ k ∧ (k ≤ b.length ∨ k = 1)) (fun (k, v_6, lo_6, hi_6, v_7, lo_7, hi_7) => b.length - k) (1, (.slice none 0 0), w.heap.size, w.heap.size, (.slice none 0 0), w.heap.size, w.heap.size) (Sub.cons rfl (Sub.cons rfl (Sub.cons rfl (Sub.cons rfl (Sub.cons rfl (Sub.cons rfl (Sub.cons rfl (Sub.nil _)))))))) ?_ ?_
      · exact ⟨(Heap.recast (n := 0) (Heap.recast (n := 1) hH4 rfl (rfl)) rfl (rfl)), by omega, by omega⟩
      · rintro ⟨k, v_6, lo_6, hi_6, v_7, lo_7, hi_7⟩ w5 ⟨hH6, hk1, hk⟩
        show Holds _ _ _ _ _ [(8, (.int .i64 (k : Int))), (6, v_6), (7, v_7), (0, (.int .i64 (n : Int))), (1, vb), (4, (.slice none 0 0)), (5, (.int .i64 ((nth b 0) % (n : Int))))] _ _
        refine seq (seq (region (ops_y hH6 rfl rfl (yv_move rfl) (ops_y hH6 rfl rfl (yv_move rfl) ?_))))
        refine ops_y hH6 rfl rfl (yv_len T.sl44 rfl ((hb.now hH6 (n := 2) rfl)).is) ?_
        refine ops_y hH6 rfl rfl (yv_lss rfl rfl) ?_
        refine ops_nil (thn_n ?_)
        by_cases hc7 : (k : Int) < (b.length : Int)
        · skip
          refine cond_t rfl (decide_eq_true hc7) ?_
          refine skip (thn_n (seq (block (seq ?_))))
          have hba := hby.at (k := k) (by omega)
          have hod := hby.odd k (by omega)
          have hev := hby.even k (by omega)
          refine region (ops_y hH6 rfl rfl (yv_move rfl) ?_)
          refine ops_y hH6 rfl rfl (yv_rem rfl rfl (by omega) (by omega)) ?_
          refine ops_y hH6 rfl rfl (yv_eql rfl rfl) ?_
          refine ops_nil (thn_n ?_)
          by_cases hc8 : ((k : Int) % 2) = 1
          · skip
            refine cond_t rfl (decide_eq_true hc8) ?_
            refine region (ops_y hH6 rfl rfl (yv_move rfl) (ops_y hH6 rfl rfl (yv_move rfl) (ops_y hH6 rfl rfl (yv_move rfl) ?_)))
            refine ops_y hH6 rfl rfl (yv_index T.sl44 rfl rfl ((hb.now hH6 (n := 2) rfl)).is (by omega)) ?_
            refine ops_y hH6 rfl rfl (yv_load T.one5 rfl (fun _ hw => Rd.at ((hb.now hw (n := 2) rfl)) (i := (k : Int)) (by omega) (j := 0) rfl)) ?_
            refine op_lit (us := [(0, (.int .u8 (nth b (k : Int))))]) T.el44_encB [nth b (k : Int)] rfl (by decide) rfl (fun a ha => by simp [ha.ev (show ev _ (.tmp 33) = some _ from rfl)]) (fun w => by kernel_rfl) hH6 (fun u9 lo11 hi12 w10 hH13 => ?_)
            refine op_append (n := 2) T.el44_encB rfl rfl rfl hH13 rfl (Heap.rdw T.el44_encB hH13 (n := 0) rfl) (by first | omega | (simp only [List.length_append, List.length_cons, List.length_nil]; omega)) (fun u14 lo16 hi17 w15 hH18 => ?_)
            refine ops_y hH18 rfl rfl (yv_assign rfl) (ops_nil (blk_n (thn_n (region (ops_y hH18 rfl rfl (yv_move rfl) ?_)))))
            refine ops_y hH18 rfl rfl (yv_add rfl rfl (by omega)) ?_
            refine ops_y hH18 rfl rfl (yv_assign rfl) (ops_nil ?_)
            have hH19 := (hH18.sub (List.Sublist.cons _ (List.Sublist.refl _)))
            refine lp_n (k + 1, u14, lo16, hi17, v_7, lo_7, hi_7) (Sub.cons rfl (Sub.cons rfl (Sub.cons rfl (Sub.cons rfl (Sub.cons rfl (Sub.cons rfl (Sub.cons rfl (Sub.nil _)))))))) ?_ ?_
            · exact ⟨(Heap.recast (n := 0) (Heap.recast (n := 1) hH19 rfl ((by first | exact Q.odd_t (by omega) | exact Q.odd_f (by omega)))) rfl ((by first | exact Q.even_t (by omega) (by omega) | exact Q.even_f (by omega)))), by omega, by omega⟩
            · first | (dsimp only; omega) | (show _ < _; omega)
          · skip
            refine cond_f rfl (decide_eq_false hc8) ?_
            refine region (ops_y hH6 rfl rfl (yv_move rfl) (ops_y hH6 rfl rfl (yv_move rfl) (ops_y hH6 rfl rfl (yv_move rfl) ?_)))
            refine ops_y hH6 rfl rfl (yv_index T.sl44 rfl rfl ((hb.now hH6 (n := 2) rfl)).is (by omega)) ?_
            refine ops_y hH6 rfl rfl (yv_load T.one5 rfl (fun _ hw => Rd.at ((hb.now hw (n := 2) rfl)) (i := (k : Int)) (by omega) (j := 0) rfl)) ?_
            refine op_lit (us := [(0, (.int .u8 (nth b (k : Int))))]) T.el44_encB [nth b (k : Int)] rfl (by decide) rfl (fun a ha => by simp [ha.ev (show ev _ (.tmp 40) = some _ from rfl)]) (fun w => by kernel_rfl) hH6 (fun u20 lo22 hi23 w21 hH24 => ?_)
            refine op_append (n := 1) T.el44_encB rfl rfl rfl hH24 rfl (Heap.rdw T.el44_encB hH24 (n := 0) rfl) (by first | omega | (simp only [List.length_append, List.length_cons, List.length_nil]; omega)) (fun u25 lo27 hi28 w26 hH29 => ?_)
            refine ops_y hH29 rfl rfl (yv_assign rfl) (ops_nil (blk_n (thn_n (region (ops_y hH29 rfl rfl (yv_move rfl) ?_)))))
            refine ops_y hH29 rfl rfl (yv_add rfl rfl (by omega)) ?_
            refine ops_y hH29 rfl rfl (yv_assign rfl) (ops_nil ?_)
            have hH30 := (hH29.sub (List.Sublist.cons _ (List.Sublist.refl _)))
            refine lp_n (k + 1, v_6, lo_6, hi_6, u25, lo27, hi28) (Sub.cons rfl (Sub.cons rfl (Sub.cons rfl (Sub.cons rfl (Sub.cons rfl (Sub.cons rfl (Sub.cons rfl (Sub.nil _)))))))) ?_ ?_
            · exact ⟨(Heap.recast (n := 0) (Heap.recast (n := 1) hH30 rfl ((by first | exact Q.odd_t (by omega) | exact Q.odd_f (by omega)))) rfl ((by first | exact Q.even_t (by omega) (by omega) | exact Q.even_f (by omega)))), by omega, by omega⟩
            · first | (dsimp only; omega) | (show _ < _; omega)
        · skip
          refine cond_f rfl (decide_eq_false hc7) ?_
          refine exit (thn_x (lp_x (blk_here (thn_n (seq ?_)))))
          have hke : k = max 1 b.length := by omega
          have hod : Q.By (Q.oddTo b k) ∧ (Q.oddTo b k).length ≤ 1000 := by rcases hk with h9 | h9; (exact ⟨(hby.odd k h9).1, Nat.le_trans (hby.odd k h9).2 (by omega)⟩); (subst h9; exact ⟨fun x hx => (by simp [Q.oddTo] at hx), (by simp [Q.oddTo])⟩)
          have hev : Q.By (Q.evenTo b k) ∧ (Q.evenTo b k).length ≤ 1000 := by rcases hk with h9 | h9; (exact ⟨(hby.even k h9).1, Nat.le_trans (hby.even k h9).2 (by omega)⟩); (subst h9; exact ⟨fun x hx => (by simp [Q.evenTo] at hx), (by simp [Q.evenTo])⟩)
          have hs1 := Q.gr_size _ (Q.pick n b) (Q.oddTo b k) (Nat.le_refl _)
          have hs2 := Q.gr_size _ (n - 1 - Q.pick n b) (Q.evenTo b k) (Nat.le_refl _)
          have hl1 := Q.T.dep_length (Q.gr (Q.pick n b) (Q.oddTo b k)) 0
          have hl2 := Q.T.dep_length (Q.gr (n - 1 - Q.pick n b) (Q.evenTo b k)) 0
          have hsm1 := Q.dep_sm (t := Q.gr (Q.pick n b) (Q.oddTo b k)) (by omega)
          have hsm2 := Q.dep_sm (t := Q.gr (n - 1 - Q.pick n b) (Q.evenTo b k)) (by omega)
          refine region (ops_y hH6 rfl rfl (yv_move rfl) (ops_y hH6 rfl rfl (yv_move rfl) ?_))
          refine op_fn rfl rfl rfl hH6 ((by have h := ih (m := (Q.pick n b)) (by omega) (Heap.rdw T.el44_encB hH6 (n := 1) rfl) hod.1 (by omega); rw [← hat] at h; exact h)) (fun u33 w31 lo34 hi35 hH32 hv36 => ?_)
          have hH37 := Heap.toOw hH32 (n := 0) rfl
          refine ops_y hH37 rfl rfl (yv_move rfl) ?_
          refine ops_y hH37 rfl rfl (yv_sub rfl rfl (by omega)) ?_
          refine ops_y hH37 rfl rfl (yv_move rfl) ?_
          refine ops_y hH37 rfl rfl (yv_sub rfl rfl (by omega)) ?_
          refine ops_y hH37 rfl rfl (yv_move rfl) ?_
          refine op_fn rfl rfl rfl hH37 ((by have h := ih (m := (n - 1 - Q.pick n b)) (by omega) (Heap.rdw T.el44_encB hH37 (n := 1) rfl) hev.1 (by omega); rw [← hat2] at h; exact h)) (fun u40 w38 lo41 hi42 hH39 hv43 => ?_)
          have hH44 := Heap.toOw hH39 (n := 0) rfl
          refine op_fn rfl rfl rfl hH44 (c80 (Heap.rdw T.el22_encI hH44 (n := 1) rfl) (Heap.rdw T.el22_encI hH44 (n := 0) rfl) (by omega) (by omega) hsm1 hsm2) (fun u47 w45 lo48 hi49 hH46 hv50 => ?_)
          have hH51 := Heap.toOw hH46 (n := 0) rfl
          refine ops_y hH51 rfl rfl (yv_assign rfl) (ops_nil (thn_n (ret ?_)))
          have hH52 := (hH51.sub (List.Sublist.cons_cons _ (List.Sublist.cons _ (List.Sublist.cons _ (List.Sublist.cons _ (List.Sublist.cons _ (List.Sublist.refl _)))))))
          refine fin (hH52.front (n := 1) rfl) (fun w' hf => (res1 rfl (show RV _ _ _ (.tmp 4) _ from rfl))) (fun w' hf => ?_)
          first | (rw [show n = 0 by omega]; exact own_nil) | (rw [Q.gr_rec (by omega), ← hke, ← Q.hung_dep]; exact Heap.own hf (n := 0) rfl)
    · skip
      have hat : (0 : Int) = (Q.pick n b : Int) := by unfold Q.pick; rw [if_neg (by omega)]; rfl
      have hat2 : (n : Int) - 1 - 0 = ((n - 1 - Q.pick n b : Nat) : Int) := by omega
      refine cond_f rfl (decide_eq_false hc2) ?_
      refine skip (thn_n (seq (region (ops_y hH rfl rfl (yv_assign rfl) (ops_y hH rfl rfl (yv_assign rfl) (ops_nil (thn_n (seq (seq ?_)))))))))
      refine region (ops_y hH rfl rfl (yv_assign rfl) (ops_nil (thn_n (block ?_))))
      have hH53 := ow_nil (enc := encB) 5 1 hH
      have hH54 := ow_nil (enc := encB) 5 1 hH53
      refine loop (S := Nat × Value × Nat × Nat × Value × Nat × Nat) (fun (k, v_6, lo_6, hi_6, v_7, lo_7, hi_7) => [(8, (.int .i64 (k : Int))), (6, v_6), (7, v_7), (0, (.int .i64 (n : Int))), (1, vb), (4, (.slice none 0 0)), (5, (.int .i64 0))]) (fun (k, v_6, lo_6, hi_6, v_7, lo_7, hi_7) w1 => Heap [ow lo_7 hi_7 5 1 encB v_7 (Q.evenTo b k), ow lo_6 hi_6 5 1 encB v_6 (Q.oddTo b k), base w] w1 ∧ 1 ≤ k ∧ (k ≤ b.length ∨ k = 1)) (fun (k, v_6, lo_6, hi_6, v_7, lo_7, hi_7) => b.length - k) (1, (.slice none 0 0), w.heap.size, w.heap.size, (.slice none 0 0), w.heap.size, w.heap.size) (Sub.cons rfl (Sub.cons rfl (Sub.cons rfl (Sub.cons rfl (Sub.cons rfl (Sub.cons rfl (Sub.cons rfl (Sub.nil _)))))))) ?_ ?_
      · exact ⟨(Heap.recast (n := 0) (Heap.recast (n := 1) hH54 rfl (rfl)) rfl (rfl)), by omega, by omega⟩
      · rintro ⟨k, v_6, lo_6, hi_6, v_7, lo_7, hi_7⟩ w55 ⟨hH56, hk1, hk⟩
        show Holds _ _ _ _ _ [(8, (.int .i64 (k : Int))), (6, v_6), (7, v_7), (0, (.int .i64 (n : Int))), (1, vb), (4, (.slice none 0 0)), (5, (.int .i64 0))] _ _
        refine seq (seq (region (ops_y hH56 rfl rfl (yv_move rfl) (ops_y hH56 rfl rfl (yv_move rfl) ?_))))
        refine ops_y hH56 rfl rfl (yv_len T.sl44 rfl ((hb.now hH56 (n := 2) rfl)).is) ?_
        refine ops_y hH56 rfl rfl (yv_lss rfl rfl) ?_
        refine ops_nil (thn_n ?_)
        by_cases hc57 : (k : Int) < (b.length : Int)
        · skip
          refine cond_t rfl (decide_eq_true hc57) ?_
          refine skip (thn_n (seq (block (seq ?_))))
          have hba := hby.at (k := k) (by omega)
          have hod := hby.odd k (by omega)
          have hev := hby.even k (by omega)
          refine region (ops_y hH56 rfl rfl (yv_move rfl) ?_)
          refine ops_y hH56 rfl rfl (yv_rem rfl rfl (by omega) (by omega)) ?_
          refine ops_y hH56 rfl rfl (yv_eql rfl rfl) ?_
          refine ops_nil (thn_n ?_)
          by_cases hc58 : ((k : Int) % 2) = 1
          · skip
            refine cond_t rfl (decide_eq_true hc58) ?_
            refine region (ops_y hH56 rfl rfl (yv_move rfl) (ops_y hH56 rfl rfl (yv_move rfl) (ops_y hH56 rfl rfl (yv_move rfl) ?_)))
            refine ops_y hH56 rfl rfl (yv_index T.sl44 rfl rfl ((hb.now hH56 (n := 2) rfl)).is (by omega)) ?_
            refine ops_y hH56 rfl rfl (yv_load T.one5 rfl (fun _ hw => Rd.at ((hb.now hw (n := 2) rfl)) (i := (k : Int)) (by omega) (j := 0) rfl)) ?_
            refine op_lit (us := [(0, (.int .u8 (nth b (k : Int))))]) T.el44_encB [nth b (k : Int)] rfl (by decide) rfl (fun a ha => by simp [ha.ev (show ev _ (.tmp 33) = some _ from rfl)]) (fun w => by kernel_rfl) hH56 (fun u59 lo61 hi62 w60 hH63 => ?_)
            refine op_append (n := 2) T.el44_encB rfl rfl rfl hH63 rfl (Heap.rdw T.el44_encB hH63 (n := 0) rfl) (by first | omega | (simp only [List.length_append, List.length_cons, List.length_nil]; omega)) (fun u64 lo66 hi67 w65 hH68 => ?_)
            refine ops_y hH68 rfl rfl (yv_assign rfl) (ops_nil (blk_n (thn_n (region (ops_y hH68 rfl rfl (yv_move rfl) ?_)))))
            refine ops_y hH68 rfl rfl (yv_add rfl rfl (by omega)) ?_
            refine ops_y hH68 rfl rfl (yv_assign rfl) (ops_nil ?_)
            have hH69 := (hH68.sub (List.Sublist.cons _ (List.Sublist.refl _)))
            refine lp_n (k + 1, u64, lo66, hi67, v_7, lo_7, hi_7) (Sub.cons rfl (Sub.cons rfl (Sub.cons rfl (Sub.cons rfl (Sub.cons rfl (Sub.cons rfl (Sub.cons rfl (Sub.nil _)))))))) ?_ ?_
            · exact ⟨(Heap.recast (n := 0) (Heap.recast (n := 1) hH69 rfl ((by first | exact Q.odd_t (by omega) | exact Q.odd_f (by omega)))) rfl ((by first | exact Q.even_t (by omega) (by omega) | exact Q.even_f (by omega)))), by omega, by omega⟩
            · first | (dsimp only; omega) | (show _ < _; omega)
          · skip
            refine cond_f rfl (decide_eq_false hc58) ?_
            refine region (ops_y hH56 rfl rfl (yv_move rfl) (ops_y hH56 rfl rfl (yv_move rfl) (ops_y hH56 rfl rfl (yv_move rfl) ?_)))
            refine ops_y hH56 rfl rfl (yv_index T.sl44 rfl rfl ((hb.now hH56 (n := 2) rfl)).is (by omega)) ?_
            refine ops_y hH56 rfl rfl (yv_load T.one5 rfl (fun _ hw => Rd.at ((hb.now hw (n := 2) rfl)) (i := (k : Int)) (by omega) (j := 0) rfl)) ?_
            refine op_lit (us := [(0, (.int .u8 (nth b (k : Int))))]) T.el44_encB [nth b (k : Int)] rfl (by decide) rfl (fun a ha => by simp [ha.ev (show ev _ (.tmp 40) = some _ from rfl)]) (fun w => by kernel_rfl) hH56 (fun u70 lo72 hi73 w71 hH74 => ?_)
            refine op_append (n := 1) T.el44_encB rfl rfl rfl hH74 rfl (Heap.rdw T.el44_encB hH74 (n := 0) rfl) (by first | omega | (simp only [List.length_append, List.length_cons, List.length_nil]; omega)) (fun u75 lo77 hi78 w76 hH79 => ?_)
            refine ops_y hH79 rfl rfl (yv_assign rfl) (ops_nil (blk_n (thn_n (region (ops_y hH79 rfl rfl (yv_move rfl) ?_)))))
            refine ops_y hH79 rfl rfl (yv_add rfl rfl (by omega)) ?_
            refine ops_y hH79 rfl rfl (yv_assign rfl) (ops_nil ?_)
            have hH80 := (hH79.sub (List.Sublist.cons _ (List.Sublist.refl _)))
            refine lp_n (k + 1, v_6, lo_6, hi_6, u75, lo77, hi78) (Sub.cons rfl (Sub.cons rfl (Sub.cons rfl (Sub.cons rfl (Sub.cons rfl (Sub.cons rfl (Sub.cons rfl (Sub.nil _)))))))) ?_ ?_
            · exact ⟨(Heap.recast (n := 0) (Heap.recast (n := 1) hH80 rfl ((by first | exact Q.odd_t (by omega) | exact Q.odd_f (by omega)))) rfl ((by first | exact Q.even_t (by omega) (by omega) | exact Q.even_f (by omega)))), by omega, by omega⟩
            · first | (dsimp only; omega) | (show _ < _; omega)
        · skip
          refine cond_f rfl (decide_eq_false hc57) ?_
          refine exit (thn_x (lp_x (blk_here (thn_n (seq ?_)))))
          have hke : k = max 1 b.length := by omega
          have hod : Q.By (Q.oddTo b k) ∧ (Q.oddTo b k).length ≤ 1000 := by rcases hk with h9 | h9; (exact ⟨(hby.odd k h9).1, Nat.le_trans (hby.odd k h9).2 (by omega)⟩); (subst h9; exact ⟨fun x hx => (by simp [Q.oddTo] at hx), (by simp [Q.oddTo])⟩)
          have hev : Q.By (Q.evenTo b k) ∧ (Q.evenTo b k).length ≤ 1000 := by rcases hk with h9 | h9; (exact ⟨(hby.even k h9).1, Nat.le_trans (hby.even k h9).2 (by omega)⟩); (subst h9; exact ⟨fun x hx => (by simp [Q.evenTo] at hx), (by simp [Q.evenTo])⟩)
          have hs1 := Q.gr_size _ (Q.pick n b) (Q.oddTo b k) (Nat.le_refl _)
          have hs2 := Q.gr_size _ (n - 1 - Q.pick n b) (Q.evenTo b k) (Nat.le_refl _)
          have hl1 := Q.T.dep_length (Q.gr (Q.pick n b) (Q.oddTo b k)) 0
          have hl2 := Q.T.dep_length (Q.gr (n - 1 - Q.pick n b) (Q.evenTo b k)) 0
          have hsm1 := Q.dep_sm (t := Q.gr (Q.pick n b) (Q.oddTo b k)) (by omega)
          have hsm2 := Q.dep_sm (t := Q.gr (n - 1 - Q.pick n b) (Q.evenTo b k)) (by omega)
          refine region (ops_y hH56 rfl rfl (yv_move rfl) (ops_y hH56 rfl rfl (yv_move rfl) ?_))
          refine op_fn rfl rfl rfl hH56 ((by have h := ih (m := (Q.pick n b)) (by omega) (Heap.rdw T.el44_encB hH56 (n := 1) rfl) hod.1 (by omega); rw [← hat] at h; exact h)) (fun u83 w81 lo84 hi85 hH82 hv86 => ?_)
          have hH87 := Heap.toOw hH82 (n := 0) rfl
          refine ops_y hH87 rfl rfl (yv_move rfl) ?_
          refine ops_y hH87 rfl rfl (yv_sub rfl rfl (by omega)) ?_
          refine ops_y hH87 rfl rfl (yv_move rfl) ?_
          refine ops_y hH87 rfl rfl (yv_sub rfl rfl (by omega)) ?_
          refine ops_y hH87 rfl rfl (yv_move rfl) ?_
          refine op_fn rfl rfl rfl hH87 ((by have h := ih (m := (n - 1 - Q.pick n b)) (by omega) (Heap.rdw T.el44_encB hH87 (n := 1) rfl) hev.1 (by omega); rw [← hat2] at h; exact h)) (fun u90 w88 lo91 hi92 hH89 hv93 => ?_)
          have hH94 := Heap.toOw hH89 (n := 0) rfl
          refine op_fn rfl rfl rfl hH94 (c80 (Heap.rdw T.el22_encI hH94 (n := 1) rfl) (Heap.rdw T.el22_encI hH94 (n := 0) rfl) (by omega) (by omega) hsm1 hsm2) (fun u97 w95 lo98 hi99 hH96 hv100 => ?_)
          have hH101 := Heap.toOw hH96 (n := 0) rfl
          refine ops_y hH101 rfl rfl (yv_assign rfl) (ops_nil (thn_n (ret ?_)))
          have hH102 := (hH101.sub (List.Sublist.cons_cons _ (List.Sublist.cons _ (List.Sublist.cons _ (List.Sublist.cons _ (List.Sublist.cons _ (List.Sublist.refl _)))))))
          refine fin (hH102.front (n := 1) rfl) (fun w' hf => (res1 rfl (show RV _ _ _ (.tmp 4) _ from rfl))) (fun w' hf => ?_)
          first | (rw [show n = 0 by omega]; exact own_nil) | (rw [Q.gr_rec (by omega), ← hke, ← Q.hung_dep]; exact Heap.own hf (n := 0) rfl)

theorem c46 {vb : Value} {n : Nat} {b : List Int} {w : World} (hb : Rd encB 1 vb b w) (hby : Q.By b) (hbn : b.length ≤ 1000) (hn : n ≤ 12) : Fn Try.prog 46 [.int .i64 (n : Int), vb].toArray w (fun u w => Own 3 1 encI u (Q.T.dep 0 (Q.gr n b)) w) := by
  induction n using Nat.strongRecOn generalizing vb b w with
  | _ n ih => exact c46r hb hby hbn hn (fun hlt h1 h2 h3 => ih _ hlt h1 h2 h3 (by omega))

end Go.Fip

set_option linter.unusedVariables false
set_option linter.unusedSimpArgs false
set_option linter.unusedSectionVars false
set_option linter.unnecessarySimpa false
namespace Go.Fip
open Go.Proofs Go.RowKit

theorem c78 {v : Value} {l : List Int} {i k : Nat} {w : World} (h0 : Rd encI 1 v l w) (hw : ∀ x ∈ l, 0 ≤ x ∧ x ≤ 1000) (hn : l.length ≤ 12) (hik : i ≤ k) (hk : k ≤ l.length)  :
    Fn Try.prog 78 [(.agg #[v]), (.agg #[(.int .i64 (i : Int)), (.int .i64 (k : Int))])].toArray w (fun u _ => u = .int .i64 (Q.P l k - Q.P l i)) := by
  refine fn_of' (args := [(.agg #[v]), (.agg #[(.int .i64 (i : Int)), (.int .i64 (k : Int))])]) Try.func78 rfl (ent Try.func78 (by kernel_rfl) rfl) rfl rfl (fun hH => ?_)
  refine seq (region ?_)
  refine op_box (us := [v]) rfl rfl rfl hH (fun b1 w2 hH3 => ?_)
  refine op_box (us := [(.int .i64 (i : Int)), (.int .i64 (k : Int))]) rfl rfl rfl hH3 (fun b4 w5 hH6 => ?_)
  refine ops_y hH6 rfl rfl (yv_assign rfl) (ops_nil (thn_n (seq (region (ops_y hH6 rfl rfl (yv_assign rfl) (ops_nil (thn_n (seq (seq ?_)))))))))
  have hpl : ((l.take ((k : Int)).toNat).drop ((i : Int)).toNat).length = k - i := Q.part_length (l := l) (i := i) (k := k) hk
  refine region ?_
  refine ops_y hH6 rfl rfl (yv_field T.f84_0 rfl) ?_
  refine ops_y hH6 rfl rfl (yv_load T.one30 rfl (fun _ hw => Heap.cellw hw (n := 1) rfl rfl)) ?_
  refine ops_y hH6 rfl rfl (yv_field T.f81_0 rfl) ?_
  refine ops_y hH6 rfl rfl (yv_load T.one3 rfl (fun _ hw => Heap.cellw hw (n := 0) rfl rfl)) ?_
  refine ops_y hH6 rfl rfl (yv_field T.f81_1 rfl) ?_
  refine ops_y hH6 rfl rfl (yv_load T.one3 rfl (fun _ hw => Heap.cellw hw (n := 0) rfl rfl)) ?_
  refine ops_y hH6 rfl rfl (yv_cut_both T.sl30 rfl rfl rfl (h0.now hH6 (n := 2) rfl).is (by omega)) ?_
  refine ops_y hH6 rfl rfl (yv_len T.sl30 rfl (Rd.cut (h0.now hH6 (n := 2) rfl) (lo := (i : Int).toNat) (hi := (k : Int).toNat) (by omega) (by omega)).is) ?_
  refine ops_y hH6 rfl rfl (yv_move rfl) (ops_nil (thn_n (block ?_)))
  refine loop (S := Nat) (fun j => [(5, (.int .i64 (Q.P l (i + j) - Q.P l i))), (16, (.int .i64 (j : Int))), (4, (.int .i64 0)), (14, (cutv v 1 (i : Int).toNat (k : Int).toNat)), (15, (.int .i64 (((l.take (k : Int).toNat).drop (i : Int).toNat).length : Int)))]) (fun j w1 => Heap [bx b4 81 [(.int .i64 (i : Int)), (.int .i64 (k : Int))], bx b1 84 [v], base w] w1 ∧ i + j ≤ k) (fun j => (k - i) - j) (0) (Sub.cons (congrArg (fun z : Int => some (Value.int .i64 z)) (by simp)) (Sub.cons rfl (Sub.cons rfl (Sub.cons rfl (Sub.cons rfl (Sub.nil _)))))) ?_ ?_
  · exact ⟨hH6, by omega⟩
  · rintro j w7 ⟨hH8, hj⟩
    show Holds _ _ _ _ _ [(5, (.int .i64 (Q.P l (i + j) - Q.P l i))), (16, (.int .i64 (j : Int))), (4, (.int .i64 0)), (14, (cutv v 1 (i : Int).toNat (k : Int).toNat)), (15, (.int .i64 (((l.take (k : Int).toNat).drop (i : Int).toNat).length : Int)))] _ _
    have hpl : ((l.take ((k : Int)).toNat).drop ((i : Int)).toNat).length = k - i := Q.part_length (l := l) (i := i) (k := k) hk
    refine seq (region ?_)
    refine ops_y hH8 rfl rfl (yv_lss rfl rfl) ?_
    refine ops_nil (thn_n (seq ?_))
    by_cases hc9 : (j : Int) < (((l.take (k : Int).toNat).drop (i : Int).toNat).length : Int)
    · skip
      refine cond_t rfl (decide_eq_true hc9) ?_
      refine skip (thn_n (seq (block (seq ?_))))
      have hnp : nth ((l.take ((k : Int)).toNat).drop ((i : Int)).toNat) (j : Int) = nth l ((i + j : Nat) : Int) := Q.nth_part (l := l) (i := i) (k := k) (j := j) (by omega) hk
      have hpb := Q.P_bd hw (i := i) j (by omega)
      have hwa := Q.of_all hw (i := i + j) (by omega)
      have hps := Q.P_succ (w := l) (k := i + j) (by omega)
      refine region ?_
      refine ops_y hH8 rfl rfl (yv_index T.sl30 rfl rfl (Rd.cut (h0.now hH8 (n := 2) rfl) (lo := (i : Int).toNat) (hi := (k : Int).toNat) (by omega) (by omega)).is (by omega)) ?_
      refine ops_y hH8 rfl rfl (yv_load T.one2 rfl (fun _ hw => Rd.at (Rd.cut (h0.now hw (n := 2) rfl) (lo := (i : Int).toNat) (hi := (k : Int).toNat) (by omega) (by omega)) (i := (j : Int)) (by omega) (j := 0) rfl)) ?_
      refine ops_y hH8 rfl rfl (yv_assign rfl) (ops_nil (thn_n (region (ops_y hH8 rfl rfl (yv_move rfl) (ops_y hH8 rfl rfl (yv_move rfl) ?_)))))
      refine ops_y hH8 rfl rfl (yv_add rfl rfl (by omega)) ?_
      refine ops_y hH8 rfl rfl (yv_assign rfl) (ops_nil (blk_n (thn_n (region ?_))))
      refine ops_y hH8 rfl rfl (yv_add rfl rfl (by omega)) ?_
      refine ops_y hH8 rfl rfl (yv_move rfl) (ops_nil ?_)
      refine lp_n (j + 1) (Sub.cons (congrArg (fun z : Int => some (Value.int .i64 z)) (by rw [show i + (j + 1) = i + j + 1 by omega]; omega)) (Sub.cons rfl (Sub.cons rfl (Sub.cons rfl (Sub.cons rfl (Sub.nil _)))))) ?_ ?_
      · exact ⟨hH8, by omega⟩
      · first | (dsimp only; omega) | (show _ < _; omega)
    · skip
      refine cond_f rfl (decide_eq_false hc9) ?_
      refine exit (thn_x (lp_x (blk_here (thn_n (seq ?_)))))
      have hpl : ((l.take ((k : Int)).toNat).drop ((i : Int)).toNat).length = k - i := Q.part_length (l := l) (i := i) (k := k) hk
      refine region (ops_y hH8 rfl rfl (yv_move rfl) (ops_y hH8 rfl rfl (yv_assign rfl) (ops_nil (thn_n (ret ?_)))))
      have hH10 := (hH8.sub (List.Sublist.cons _ (List.Sublist.cons _ (List.Sublist.refl _))))
      refine fin hH10 (fun w' hf => (res1 rfl (show RV _ _ _ (.tmp 4) _ from rfl))) (fun w' hf => ?_)
      have hje : i + j = k := by omega
      rw [hje]

end Go.Fip

set_option linter.unusedVariables false
set_option linter.unusedSimpArgs false
set_option linter.unusedSectionVars false
set_option linter.unnecessarySimpa false
namespace Go.Fip
open Go.Proofs Go.RowKit

theorem T.m85 : MapT Try.prog 85 81 2 (fun n : Int × Int => .agg #[.int .i64 n.1, .int .i64 n.2]) (fun n : Int => .int .i64 n) 0 := mapT_two (by kernel_rfl) Try.underlying81 (by kernel_rfl) (by kernel_rfl) (by kernel_rfl) (by kernel_rfl) (fun _ => by kernel_rfl)

theorem c41 {v : Value} {l : List Int} {w : World} (h0 : Rd encI 1 v l w)  :
    Fn Try.prog 41 [v].toArray w (fun u _ => u = .bool (decide (Q.ckW l = 0))) := by
  refine fn_of' (args := [v]) Try.func41 rfl (ent Try.func41 (by kernel_rfl) rfl) rfl rfl (fun hH => ?_)
  refine seq (region (ops_y hH rfl rfl (yv_assign rfl) (ops_nil (thn_n (seq (region (ops_y hH rfl rfl (yv_move rfl) ?_)))))))
  refine op_fnV rfl rfl rfl hH (c22 (h0.now hH (n := 0) rfl)) (fun w1 hH2 => ?_)
  refine ops_y hH2 rfl rfl (yv_not rfl) ?_
  refine ops_y hH2 rfl rfl (yv_move rfl) ?_
  by_cases hc3 : 16 < (l.length : Int)
  · skip
    refine guard_no rfl rfl (not_decide_n hc3) rfl ?_
    refine guard_no rfl rfl (not_decide_n hc3) rfl ?_
    refine guard_no rfl rfl (not_decide_n hc3) rfl ?_
    refine ops_y hH2 rfl rfl (yv_pick_f rfl (not_decide_n hc3) rfl) ?_
    refine ops_y hH2 rfl rfl (yv_assign rfl) (ops_nil (thn_n (ret ?_)))
    refine fin hH2 (fun w' hf => (res1 rfl (show RV _ _ _ (.tmp 2) _ from rfl))) (fun w' hf => ?_)
    first | rfl | (show Value.bool _ = Value.bool _; congr 1; exact (decide_eq_false (fun h => by have := (Q.ckW_w h).1; omega)).symm)
  · skip
    refine guard_yes rfl rfl (not_decide_t hc3) ?_
    refine ops_y hH2 rfl rfl (yv_move rfl) ?_
    refine guard_yes rfl rfl (not_decide_t hc3) ?_
    refine op_fnV rfl rfl rfl hH2 (c32 (h0.now hH2 (n := 0) rfl) (by omega)) (fun w4 hH5 => ?_)
    refine guard_yes rfl rfl (not_decide_t hc3) ?_
    refine ops_y hH5 rfl rfl (yv_eql rfl rfl) ?_
    refine ops_y hH5 rfl rfl (yv_pick_t rfl (not_decide_t hc3) rfl) ?_
    refine ops_y hH5 rfl rfl (yv_assign rfl) (ops_nil (thn_n (ret ?_)))
    refine fin hH5 (fun w' hf => (res1 rfl (show RV _ _ _ (.tmp 2) _ from rfl))) (fun w' hf => ?_)
    first | rfl | (show Value.bool _ = Value.bool _; congr 1; exact (decide_eq_false (fun h => by have := (Q.ckW_w h).1; omega)).symm)

theorem c54 {w : World}  :
    Fn Try.prog 54 [].toArray w (fun u w => Own 2 1 encI u [4, 2, 6, 3] w) := by
  refine fn_of' (args := []) Try.func54 rfl (ent Try.func54 (by kernel_rfl) rfl) rfl rfl (fun hH => ?_)
  refine seq (region (ops_y hH rfl rfl (yv_assign rfl) (ops_nil (thn_n (seq (region ?_))))))
  refine op_lit (us := [(0, (.int .i64 4)), (1, (.int .i64 2)), (2, (.int .i64 6)), (3, (.int .i64 3))]) T.el30_encI [4, 2, 6, 3] rfl (by decide) rfl (fun a ha => by simp [ha.ev (show ev _ (.const (.int .i64 4)) = some _ from rfl), ha.ev (show ev _ (.const (.int .i64 2)) = some _ from rfl), ha.ev (show ev _ (.const (.int .i64 6)) = some _ from rfl), ha.ev (show ev _ (.const (.int .i64 3)) = some _ from rfl)]) (fun w => by kernel_rfl) hH (fun u1 lo3 hi4 w2 hH5 => ?_)
  refine op_fnV rfl rfl rfl hH5 (c52) (fun w6 hH7 => ?_)
  refine ops_y hH7 rfl rfl (yv_assign rfl) (ops_nil (thn_n (ret ?_)))
  refine fin (hH7.front (n := 1) rfl) (fun w' hf => (res1 rfl (show RV _ _ _ (.tmp 0) _ from rfl))) (fun w' hf => ?_)
  exact Heap.own hf (n := 0) rfl

end Go.Fip

set_option linter.unusedVariables false
set_option linter.unusedSimpArgs false
set_option linter.unusedSectionVars false
set_option linter.unnecessarySimpa false
namespace Go.Fip
open Go.Proofs Go.RowKit

namespace Q
def wideB (R : List (List Int)) : Bool := decide (16 < R.length) || R.any fun r => decide (16 < r.length)
theorem wide_no {R : List (List Int)} (h : ¬ 16 < (R.length : Int)) (h2 : ∀ i : Nat, i < R.length → ¬ 16 < ((nth R (i : Int)).length : Int)) : wideB R = false := by
  unfold wideB
  rw [Bool.or_eq_false_iff]
  refine ⟨decide_eq_false (by omega), ?_⟩
  rw [List.any_eq_false]
  intro r hr
  obtain ⟨i, hi, rfl⟩ := List.getElem_of_mem hr
  have := h2 i hi
  rw [nth_nat hi] at this
  simp; omega
theorem wide_yes {R : List (List Int)} (h : 16 < (R.length : Int)) : wideB R = true := by unfold wideB; rw [decide_eq_true (by omega)]; rfl
theorem wide_row {R : List (List Int)} {i : Nat} (hi : i < R.length) (h : 16 < ((nth R (i : Int)).length : Int)) : wideB R = true := by
  unfold wideB
  rw [Bool.or_eq_true]
  refine .inr (List.any_eq_true.2 ⟨nth R (i : Int), ?_, decide_eq_true (by omega)⟩)
  rw [nth_nat hi]; exact List.getElem_mem hi
theorem wide_spec {R : List (List Int)} (h : ¬ wideB R = true) : R.length ≤ 16 ∧ ∀ i : Nat, i < R.length → (nth R (i : Int)).length ≤ 16 := by
  refine ⟨?_, fun i hi => ?_⟩
  · rcases Nat.lt_or_ge 16 R.length with h1 | h1
    · exact absurd (wide_yes (by omega)) h
    · exact h1
  · rcases Nat.lt_or_ge 16 (nth R (i : Int)).length with h1 | h1
    · exact absurd (wide_row hi (by omega)) h
    · exact h1
/-- A bound that is given for a span. -/
def btw (R : List (List Int)) (a b : Int) : Int := if b ≤ a then 0 else nth (nth R a) (b - a - 1)
theorem btw_nil {R : List (List Int)} {a b : Int} (h : b ≤ a) : btw R a b = 0 := if_pos h
theorem btw_at {R : List (List Int)} {a b : Int} (h : ¬ b ≤ a) : btw R a b = nth (nth R a) (b - a - 1) := if_neg h
end Q
theorem ext_any {α : Type} [Inhabited α] {l m : List α} (hl : l.length = m.length) (h : ∀ i, i < l.length → nth l (i : Int) = nth m (i : Int)) : l = m :=
  List.ext_getElem hl fun i h1 h2 => by have := h i h1; rwa [nth_nat h1, nth_nat h2] at this
theorem T.el45_encS : El Try.prog 45 30 1 encS := el_of (z := (.slice none 0 0)) (bytes := 24) (by kernel_rfl) (by kernel_rfl) rfl rfl rfl (fun _ => rfl) (by simp [encS, sv, Value.oneCell'])
theorem T.el100_encS : El Try.prog 100 22 1 encS := el_of (z := (.slice none 0 0)) (bytes := 24) (by kernel_rfl) (by kernel_rfl) rfl rfl rfl (fun _ => rfl) (by simp [encS, sv, Value.oneCell'])
theorem snd_snoc {Rs : List RwI} {r : RwI} {f : RwI → List Int} {X Y : List (List Int)} {y : List Int} (h : Rs.map f = X) (hy : Y = X ++ [y]) (hr : f r = y) : (Rs ++ [r]).map f = Y := by
  rw [hy, ← h, ← hr]; simp
theorem hd_snoc {Rs : List RwI} {r : RwI} {s : Hd} (h : s = r.s) : Rs.map (·.s) ++ [s] = (Rs ++ [r]).map (·.s) := by rw [h]; simp
theorem rowsC {P : Program} {f : FuncId} {args : Array Value} {w : World} {RR QQ : List (List Int)} (h : Fn P f args w (fun u w => ∃ TT, RowsAt u TT RR w)) (e : RR = QQ) : Fn P f args w (fun u w => ∃ TT, RowsAt u TT QQ w) := e ▸ h

theorem c57 {ua ub : Value} {T1 T2 : List Hd} {R1 R2 : List (List Int)} {w : World} (ha : RowsAt ua T1 R1 w) (hb : RowsAt ub T2 R2 w) (hn1 : R1.length ≤ 1000000) (hn2 : R2.length ≤ 1000000) (he1 : ∀ i : Nat, i < R1.length → (nth R1 (i : Int)).length ≤ 1000000) (he2 : ∀ i : Nat, i < R2.length → (nth R2 (i : Int)).length ≤ 1000000)  :
    Fn Try.prog 57 [ua, ub].toArray w (fun u _ => u = .bool (decide (R1 = R2))) := by
  refine fn_of' (args := [ua, ub]) Try.func57 rfl (ent Try.func57 (by kernel_rfl) rfl) rfl rfl (fun hH => ?_)
  have hl1 := ha.2.1
  have hl2 := hb.2.1
  refine seq (region (ops_y hH rfl rfl (yv_assign rfl) (ops_nil (thn_n (seq (seq (region (ops_y hH rfl rfl (yv_move rfl) ?_))))))))
  refine ops_y hH rfl rfl (yv_len T.sl45 rfl ((ha.now hH (n := 0) rfl).1).is) ?_
  refine ops_y hH rfl rfl (yv_move rfl) ?_
  refine ops_y hH rfl rfl (yv_len T.sl45 rfl ((hb.now hH (n := 0) rfl).1).is) ?_
  refine ops_y hH rfl rfl (yv_neq rfl rfl) ?_
  refine ops_nil (thn_n ?_)
  by_cases hc1 : (T1.length : Int) = (T2.length : Int)
  · skip
    refine cond_f rfl (not_decide_n hc1) ?_
    refine skip (thn_n (seq (seq (region (ops_y hH rfl rfl (yv_assign rfl) (ops_nil (thn_n (block ?_))))))))
    refine loop (S := Nat) (fun k => [(5, (.int .i64 (k : Int))), (0, ua), (1, ub)]) (fun k w1 => Heap [base w] w1 ∧ k ≤ R1.length ∧ ∀ i, i < k → nth R1 (i : Int) = nth R2 (i : Int)) (fun k => R1.length - k) (0) (Sub.cons rfl (Sub.cons rfl (Sub.cons rfl (Sub.nil _)))) ?_ ?_
    · exact ⟨hH, by omega, S.all_zero⟩
    · rintro k w2 ⟨hH3, hk, hall⟩
      show Holds _ _ _ _ _ [(5, (.int .i64 (k : Int))), (0, ua), (1, ub)] _ _
      refine seq (seq (region (ops_y hH3 rfl rfl (yv_move rfl) (ops_y hH3 rfl rfl (yv_move rfl) ?_))))
      refine ops_y hH3 rfl rfl (yv_len T.sl45 rfl ((ha.now hH3 (n := 0) rfl).1).is) ?_
      refine ops_y hH3 rfl rfl (yv_lss rfl rfl) ?_
      refine ops_nil (thn_n ?_)
      by_cases hc4 : (k : Int) < (T1.length : Int)
      · skip
        refine cond_t rfl (decide_eq_true hc4) ?_
        refine skip (thn_n (seq (block (seq ?_))))
        have hq1 := he1 k (by omega)
        have hq2 := he2 k (by omega)
        refine region_draw (fun w' => Heap [base w] w') T.mixed (fun w5 hr6 => ?_)
        have hH7 := hH3.redrawn hr6
        refine any_takes [0, 1, 2, 3, 4, 5, 6, 7] (by kernel_rfl) hH7 _ _ _ (by kernel_rfl) ?_
        refine qs_y rfl rfl (yv_move rfl) (qs_y rfl rfl (yv_move rfl) ?_)
        refine qs_y rfl rfl (yv_index T.sl45 rfl rfl ((ha.now hH7 (n := 0) rfl).1).is (by omega)) ?_
        refine qs_y rfl rfl (yv_load T.one30 rfl (fun _ hw => Rd.at ((ha.now hw (n := 0) rfl).1) (i := (k : Int)) (by omega) (j := 0) rfl)) ?_
        refine qs_y rfl rfl (yv_move rfl) (qs_y rfl rfl (yv_move rfl) ?_)
        refine qs_y rfl rfl (yv_index T.sl45 rfl rfl ((hb.now hH7 (n := 0) rfl).1).is (by omega)) ?_
        refine qs_y rfl rfl (yv_load T.one30 rfl (fun _ hw => Rd.at ((hb.now hw (n := 0) rfl).1) (i := (k : Int)) (by omega) (j := 0) rfl)) ?_
        refine qs_nil ?_
        refine any_all [8] (by kernel_rfl) rfl ?_
        refine ⟨⟨_, rfl, ?_⟩, trivial⟩
        · skip
          refine op_fnV rfl rfl rfl hH7 (c83 (RowsAt.at (ha.now hH7 (n := 0) rfl) (by omega) (by omega)) (RowsAt.at (hb.now hH7 (n := 0) rfl) (by omega) (by omega)) (by omega) (by omega)) (fun w8 hH9 => ?_)
          refine ops_nil ?_
          refine ⟨hH9, ?_⟩
          refine any_takes [9] (by kernel_rfl) hH9 _ _ _ (by kernel_rfl) ?_
          refine qs_y rfl rfl (yv_not rfl) ?_
          refine qs_nil ?_
          refine any_done (by kernel_rfl) ?_
          refine thn_n ?_
          by_cases hc10 : (nth R1 (k : Int)) = (nth R2 (k : Int))
          · skip
            have hp : nth R1 (k : Int) = nth R2 (k : Int) := by simpa using (not_decide_n hc10)
            refine cond_f rfl (not_decide_n hc10) ?_
            refine skip (blk_n (thn_n (region (ops_y hH9 rfl rfl (yv_move rfl) ?_))))
            refine ops_y hH9 rfl rfl (yv_add rfl rfl (by omega)) ?_
            refine ops_y hH9 rfl rfl (yv_assign rfl) (ops_nil ?_)
            refine lp_n (k + 1) (Sub.cons rfl (Sub.cons rfl (Sub.cons rfl (Sub.nil _)))) ?_ ?_
            · exact ⟨hH9, by omega, S.all_snoc hall hp⟩
            · first | (dsimp only; omega) | (show _ < _; omega)
          · skip
            have hp : ¬ nth R1 (k : Int) = nth R2 (k : Int) := by simpa using (not_decide_t hc10)
            refine cond_t rfl (not_decide_t hc10) ?_
            refine seq (region (ops_y hH9 rfl rfl (yv_assign rfl) (ops_nil (thn_n (ret (blk_r (thn_r (lp_r (blk_r ?_)))))))))
            refine thn_r ?_
            refine fin hH9 (fun w' hf => (res1 rfl (show RV _ _ _ (.tmp 4) _ from rfl))) (fun w' hf => ?_)
            first | exact congrArg Value.bool (decide_eq_false (fun e => by subst e; omega)).symm | exact congrArg Value.bool (decide_eq_false (fun e => hp (by rw [e]))).symm | exact congrArg Value.bool (decide_eq_true (ext_any (by omega) (fun i hi => hall i (by omega)))).symm
      · skip
        refine cond_f rfl (decide_eq_false hc4) ?_
        refine exit (thn_x (lp_x (blk_here (thn_n (seq (region (ops_y hH3 rfl rfl (yv_assign rfl) (ops_nil (thn_n ?_)))))))))
        refine ret ?_
        refine fin hH3 (fun w' hf => (res1 rfl (show RV _ _ _ (.tmp 4) _ from rfl))) (fun w' hf => ?_)
        first | exact congrArg Value.bool (decide_eq_false (fun e => by subst e; omega)).symm | exact congrArg Value.bool (decide_eq_false (fun e => hp (by rw [e]))).symm | exact congrArg Value.bool (decide_eq_true (ext_any (by omega) (fun i hi => hall i (by omega)))).symm
  · skip
    refine cond_t rfl (not_decide_t hc1) ?_
    refine seq (region (ops_y hH rfl rfl (yv_assign rfl) (ops_nil (thn_n (ret (thn_r ?_))))))
    refine fin hH (fun w' hf => (res1 rfl (show RV _ _ _ (.tmp 4) _ from rfl))) (fun w' hf => ?_)
    first | exact congrArg Value.bool (decide_eq_false (fun e => by subst e; omega)).symm | exact congrArg Value.bool (decide_eq_false (fun e => hp (by rw [e]))).symm | exact congrArg Value.bool (decide_eq_true (ext_any (by omega) (fun i hi => hall i (by omega)))).symm

theorem c42 {u : Value} {TT : List Hd} {RR : List (List Int)} {w : World} (ha : RowsAt u TT RR w) (hn : RR.length ≤ 1000000000)  :
    Fn Try.prog 42 [u].toArray w (fun u _ => u = .bool (Q.wideB RR)) := by
  refine fn_of' (args := [u]) Try.func42 rfl (ent Try.func42 (by kernel_rfl) rfl) rfl rfl (fun hH => ?_)
  have hl1 := ha.2.1
  refine seq (region (ops_y hH rfl rfl (yv_assign rfl) (ops_nil (thn_n (seq (seq (region (ops_y hH rfl rfl (yv_move rfl) ?_))))))))
  refine ops_y hH rfl rfl (yv_len T.sl45 rfl ((ha.now hH (n := 0) rfl).1).is) ?_
  refine ops_y hH rfl rfl (yv_gtr rfl rfl) ?_
  refine ops_nil (thn_n ?_)
  by_cases hc1 : 16 < (TT.length : Int)
  · skip
    refine cond_t rfl (decide_eq_true hc1) ?_
    refine seq (region (ops_y hH rfl rfl (yv_assign rfl) (ops_nil (thn_n (ret (thn_r ?_))))))
    refine fin hH (fun w' hf => (res1 rfl (show RV _ _ _ (.tmp 2) _ from rfl))) (fun w' hf => ?_)
    first | exact congrArg Value.bool (Q.wide_yes (by omega)).symm | exact congrArg Value.bool (Q.wide_row (i := k) (by omega) hp).symm | exact congrArg Value.bool (Q.wide_no (by omega) (fun i hi => hall i (by omega))).symm
  · skip
    refine cond_f rfl (decide_eq_false hc1) ?_
    refine skip (thn_n (seq (seq (region (ops_y hH rfl rfl (yv_assign rfl) (ops_nil (thn_n (block ?_))))))))
    refine loop (S := Nat) (fun k => [(3, (.int .i64 (k : Int))), (0, u)]) (fun k w1 => Heap [base w] w1 ∧ k ≤ RR.length ∧ ∀ i : Nat, i < k → ¬ 16 < ((nth RR (i : Int)).length : Int)) (fun k => RR.length - k) (0) (Sub.cons rfl (Sub.cons rfl (Sub.nil _))) ?_ ?_
    · exact ⟨hH, by omega, fun i hi => absurd hi (Nat.not_lt_zero _)⟩
    · rintro k w2 ⟨hH3, hk, hall⟩
      show Holds _ _ _ _ _ [(3, (.int .i64 (k : Int))), (0, u)] _ _
      refine seq (seq (region (ops_y hH3 rfl rfl (yv_move rfl) (ops_y hH3 rfl rfl (yv_move rfl) ?_))))
      refine ops_y hH3 rfl rfl (yv_len T.sl45 rfl ((ha.now hH3 (n := 0) rfl).1).is) ?_
      refine ops_y hH3 rfl rfl (yv_lss rfl rfl) ?_
      refine ops_nil (thn_n ?_)
      by_cases hc4 : (k : Int) < (TT.length : Int)
      · skip
        refine cond_t rfl (decide_eq_true hc4) ?_
        refine skip (thn_n (seq (block (seq (region (ops_y hH3 rfl rfl (yv_move rfl) (ops_y hH3 rfl rfl (yv_move rfl) ?_)))))))
        refine ops_y hH3 rfl rfl (yv_index T.sl45 rfl rfl ((ha.now hH3 (n := 0) rfl).1).is (by omega)) ?_
        refine ops_y hH3 rfl rfl (yv_load T.one30 rfl (fun _ hw => Rd.at ((ha.now hw (n := 0) rfl).1) (i := (k : Int)) (by omega) (j := 0) rfl)) ?_
        refine op_fnV rfl rfl rfl hH3 (c22 (RowsAt.at (ha.now hH3 (n := 0) rfl) (by omega) (by omega))) (fun w5 hH6 => ?_)
        refine ops_nil (thn_n ?_)
        by_cases hc7 : 16 < ((nth RR (k : Int)).length : Int)
        · skip
          have hp : 16 < ((nth RR (k : Int)).length : Int) := by simpa using (decide_eq_true hc7)
          refine cond_t rfl (decide_eq_true hc7) ?_
          refine seq (region (ops_y hH6 rfl rfl (yv_assign rfl) (ops_nil (thn_n (ret (blk_r (thn_r (lp_r (blk_r ?_)))))))))
          refine thn_r ?_
          refine fin hH6 (fun w' hf => (res1 rfl (show RV _ _ _ (.tmp 2) _ from rfl))) (fun w' hf => ?_)
          first | exact congrArg Value.bool (Q.wide_yes (by omega)).symm | exact congrArg Value.bool (Q.wide_row (i := k) (by omega) hp).symm | exact congrArg Value.bool (Q.wide_no (by omega) (fun i hi => hall i (by omega))).symm
        · skip
          have hp : ¬ 16 < ((nth RR (k : Int)).length : Int) := by simpa using (decide_eq_false hc7)
          refine cond_f rfl (decide_eq_false hc7) ?_
          refine skip (blk_n (thn_n (region (ops_y hH6 rfl rfl (yv_move rfl) ?_))))
          refine ops_y hH6 rfl rfl (yv_add rfl rfl (by omega)) ?_
          refine ops_y hH6 rfl rfl (yv_assign rfl) (ops_nil ?_)
          refine lp_n (k + 1) (Sub.cons rfl (Sub.cons rfl (Sub.nil _))) ?_ ?_
          · exact ⟨hH6, by omega, fun i hi => by rcases Nat.lt_or_ge i k with h | h; exact hall i h; rw [show i = k by omega]; exact hp⟩
          · first | (dsimp only; omega) | (show _ < _; omega)
      · skip
        refine cond_f rfl (decide_eq_false hc4) ?_
        refine exit (thn_x (lp_x (blk_here (thn_n (seq (region (ops_y hH3 rfl rfl (yv_assign rfl) (ops_nil (thn_n ?_)))))))))
        refine ret ?_
        refine fin hH3 (fun w' hf => (res1 rfl (show RV _ _ _ (.tmp 2) _ from rfl))) (fun w' hf => ?_)
        first | exact congrArg Value.bool (Q.wide_yes (by omega)).symm | exact congrArg Value.bool (Q.wide_row (i := k) (by omega) hp).symm | exact congrArg Value.bool (Q.wide_no (by omega) (fun i hi => hall i (by omega))).symm

theorem c49 {u : Value} {TT : List Hd} {RR : List (List Int)} {w : World} (ha : RowsAt u TT RR w) {a b : Int} (ha0 : -1000000 ≤ a) (hb0 : b ≤ 1000000) (h1 : a < b → 0 ≤ a ∧ a < (RR.length : Int) ∧ b - a - 1 < ((nth RR a).length : Int))  :
    Fn Try.prog 49 [u, (.int .i64 a), (.int .i64 b)].toArray w (fun u _ => u = .int .i64 (Q.btw RR a b)) := by
  refine fn_of' (args := [u, (.int .i64 a), (.int .i64 b)]) Try.func49 rfl (ent Try.func49 (by kernel_rfl) rfl) rfl rfl (fun hH => ?_)
  have hl1 := ha.2.1
  refine seq (region (ops_y hH rfl rfl (yv_assign rfl) (ops_nil (thn_n (seq (seq (region (ops_y hH rfl rfl (yv_move rfl) (ops_y hH rfl rfl (yv_move rfl) ?_)))))))))
  refine ops_y hH rfl rfl (yv_geq rfl rfl) ?_
  refine ops_nil (thn_n ?_)
  by_cases hc1 : b ≤ a
  · skip
    refine cond_t rfl (decide_eq_true hc1) ?_
    refine seq (region (ops_y hH rfl rfl (yv_assign rfl) (ops_nil (thn_n (ret (thn_r ?_))))))
    refine fin hH (fun w' hf => (res1 rfl (show RV _ _ _ (.tmp 6) _ from rfl))) (fun w' hf => ?_)
    first | exact congrArg (Value.int .i64) (Q.btw_nil (by omega)).symm | exact congrArg (Value.int .i64) (Q.btw_at (by omega)).symm
  · skip
    refine cond_f rfl (decide_eq_false hc1) ?_
    refine skip (thn_n (seq ?_))
    obtain ⟨h2, h3, h4⟩ := h1 (by omega)
    refine region (ops_y hH rfl rfl (yv_move rfl) (ops_y hH rfl rfl (yv_move rfl) ?_))
    refine ops_y hH rfl rfl (yv_index T.sl45 rfl rfl ((ha.now hH (n := 0) rfl).1).is (by omega)) ?_
    refine ops_y hH rfl rfl (yv_load T.one30 rfl (fun _ hw => Rd.at ((ha.now hw (n := 0) rfl).1) (i := a) (by omega) (j := 0) rfl)) ?_
    refine ops_y hH rfl rfl (yv_move rfl) (ops_y hH rfl rfl (yv_move rfl) ?_)
    refine ops_y hH rfl rfl (yv_sub rfl rfl (by omega)) ?_
    refine ops_y hH rfl rfl (yv_sub rfl rfl (by omega)) ?_
    refine ops_y hH rfl rfl (yv_index T.sl30 rfl rfl (RowsAt.at (ha.now hH (n := 0) rfl) (by omega) (by omega)).is (by omega)) ?_
    refine ops_y hH rfl rfl (yv_load T.one2 rfl (fun _ hw => Rd.at (RowsAt.at (ha.now hw (n := 0) rfl) (by omega) (by omega)) (i := (b - a) - 1) (by omega) (j := 0) rfl)) ?_
    refine ops_y hH rfl rfl (yv_assign rfl) (ops_nil (thn_n (ret ?_)))
    refine fin hH (fun w' hf => (res1 rfl (show RV _ _ _ (.tmp 6) _ from rfl))) (fun w' hf => ?_)
    first | exact congrArg (Value.int .i64) (Q.btw_nil (by omega)).symm | exact congrArg (Value.int .i64) (Q.btw_at (by omega)).symm

theorem c79 {u : Value} {TT : List Hd} {RR : List (List Int)} {w : World} (ha : RowsAt u TT RR w) {a b : Int} (hle : a ≤ b) (ha0 : -1000000 ≤ a) (hb0 : b ≤ 1000000) (h1 : a < b → 0 ≤ a ∧ a < (RR.length : Int) ∧ b - a - 1 < ((nth RR a).length : Int))  :
    Fn Try.prog 79 [u, (.int .i64 a), (.int .i64 b)].toArray w (fun u _ => u = .int .i64 (Q.btw RR a b)) := by
  refine fn_of' (args := [u, (.int .i64 a), (.int .i64 b)]) Try.func79 rfl (ent Try.func79 (by kernel_rfl) rfl) rfl rfl (fun hH => ?_)
  have hl1 := ha.2.1
  refine seq (region (ops_y hH rfl rfl (yv_assign rfl) (ops_nil (thn_n (seq (seq (region (ops_y hH rfl rfl (yv_move rfl) (ops_y hH rfl rfl (yv_move rfl) ?_)))))))))
  refine ops_y hH rfl rfl (yv_eql rfl rfl) ?_
  refine ops_nil (thn_n ?_)
  by_cases hc1 : a = b
  · skip
    refine cond_t rfl (decide_eq_true hc1) ?_
    refine seq (region (ops_y hH rfl rfl (yv_assign rfl) (ops_nil (thn_n (ret (thn_r ?_))))))
    refine fin hH (fun w' hf => (res1 rfl (show RV _ _ _ (.tmp 6) _ from rfl))) (fun w' hf => ?_)
    first | exact congrArg (Value.int .i64) (Q.btw_nil (by omega)).symm | exact congrArg (Value.int .i64) (Q.btw_at (by omega)).symm
  · skip
    refine cond_f rfl (decide_eq_false hc1) ?_
    refine skip (thn_n (seq ?_))
    obtain ⟨h2, h3, h4⟩ := h1 (by omega)
    refine region (ops_y hH rfl rfl (yv_move rfl) (ops_y hH rfl rfl (yv_move rfl) ?_))
    refine ops_y hH rfl rfl (yv_index T.sl45 rfl rfl ((ha.now hH (n := 0) rfl).1).is (by omega)) ?_
    refine ops_y hH rfl rfl (yv_load T.one30 rfl (fun _ hw => Rd.at ((ha.now hw (n := 0) rfl).1) (i := a) (by omega) (j := 0) rfl)) ?_
    refine ops_y hH rfl rfl (yv_move rfl) (ops_y hH rfl rfl (yv_move rfl) ?_)
    refine ops_y hH rfl rfl (yv_sub rfl rfl (by omega)) ?_
    refine ops_y hH rfl rfl (yv_sub rfl rfl (by omega)) ?_
    refine ops_y hH rfl rfl (yv_index T.sl30 rfl rfl (RowsAt.at (ha.now hH (n := 0) rfl) (by omega) (by omega)).is (by omega)) ?_
    refine ops_y hH rfl rfl (yv_load T.one2 rfl (fun _ hw => Rd.at (RowsAt.at (ha.now hw (n := 0) rfl) (by omega) (by omega)) (i := (b - a) - 1) (by omega) (j := 0) rfl)) ?_
    refine ops_y hH rfl rfl (yv_assign rfl) (ops_nil (thn_n (ret ?_)))
    refine fin hH (fun w' hf => (res1 rfl (show RV _ _ _ (.tmp 6) _ from rfl))) (fun w' hf => ?_)
    first | exact congrArg (Value.int .i64) (Q.btw_nil (by omega)).symm | exact congrArg (Value.int .i64) (Q.btw_at (by omega)).symm

theorem c66 {v : Value} {l : List Int} {w : World} (h0 : Rd encI 1 v l w)  :
    Fn Try.prog 66 [(.agg #[v])].toArray w (fun u _ => u = .agg #[.int .i64 0, .int .i64 (l.length : Int)]) := by
  refine fn_of' (args := [(.agg #[v])]) Try.func66 rfl (ent Try.func66 (by kernel_rfl) rfl) rfl rfl (fun hH => ?_)
  refine seq (region ?_)
  refine op_box (us := [v]) rfl rfl rfl hH (fun b1 w2 hH3 => ?_)
  refine op_alloc (z := (.agg #[(.int .i64 0), (.int .i64 0)])) (us := [(.int .i64 0), (.int .i64 0)]) (fun _ => by kernel_rfl) rfl rfl hH3 (fun b4 w5 hH6 => ?_)
  refine ops_nil (thn_n (seq (region ?_)))
  refine ops_y hH6 rfl rfl (yv_field T.f84_0 rfl) ?_
  refine ops_y hH6 rfl rfl (yv_load T.one30 rfl (fun _ hw => Heap.cellw hw (n := 1) rfl rfl)) ?_
  refine ops_y hH6 rfl rfl (yv_len T.sl30 rfl (h0.now hH6 (n := 2) rfl).is) ?_
  refine ops_y hH6 rfl rfl (yv_build (v := (.agg #[(.int .i64 0), (.int .i64 (l.length : Int))])) (us := [(0, (.int .i64 0)), (1, (.int .i64 (l.length : Int)))]) (fun a ha => by simp [ha.ev (show ev _ (.const (.int .i64 0)) = some _ from rfl), ha.ev (show ev _ (.tmp 5) = some _ from rfl)]) (fun w => by kernel_rfl)) ?_
  refine op_store (n := 0) (j := 0) (us := [(.int .i64 0), (.int .i64 (l.length : Int))]) rfl rfl hH6 rfl T.sz81 rfl rfl rfl (by rfl) (fun w7 hH8 => ?_)
  refine ops_nil (thn_n (ret ?_))
  have hH9 := (hH8.sub (List.Sublist.cons_cons _ (List.Sublist.cons _ (List.Sublist.refl _))))
  refine fin (hH9.front (n := 1) rfl) (fun w' hf => (res1 rfl (rvA (cs := [(.int .i64 0), (.int .i64 (l.length : Int))]) rfl T.agg81 rfl (bx_cells (Heap.bxw hf (n := 1) rfl) (k := 0) rfl)))) (fun w' hf => ?_)
  rfl

end Go.Fip

set_option linter.unusedVariables false
set_option linter.unusedSimpArgs false
set_option linter.unusedSectionVars false
namespace Go.Fip.Q
open Go.Fip
def tabTo (l : List Int) (f : Nat) : List (List Int) := (List.range f).map fun i => (List.range (l.length - i)).map fun k => C l i (i + k + 1)
def tab (l : List Int) : List (List Int) := tabTo l l.length
variable {l : List Int}
theorem tabTo_succ {f : Nat} : tabTo l (f + 1) = tabTo l f ++ [(List.range (l.length - f)).map fun k => C l f (f + k + 1)] := by simp [tabTo, List.range_succ]
theorem tabTo_length {f : Nat} : (tabTo l f).length = f := by simp [tabTo]
theorem tab_length : (tab l).length = l.length := tabTo_length
theorem nth_tab {i : Nat} (h : i < l.length) : nth (tab l) (i : Int) = (List.range (l.length - i)).map fun k => C l i (i + k + 1) := by
  rw [nth_nat (by rw [tab_length]; exact h)]; simp [tab, tabTo]
theorem tab_row {i : Nat} (h : i < l.length) : (nth (tab l) (i : Int)).length = l.length - i := by rw [nth_tab h]; simp
theorem tab_at {i k : Nat} (h : i < l.length) (hk : k < l.length - i) : nth (nth (tab l) (i : Int)) (k : Int) = C l i (i + k + 1) := by
  rw [nth_tab h, nth_nat (by simpa using hk)]; simp
theorem btw_tab {i k : Nat} (h : i ≤ k) (hk : k ≤ l.length) : btw (tab l) (i : Int) (k : Int) = C l i k := by
  by_cases e : k = i
  · subst e; rw [btw_nil (Int.le_refl _), C_nil (Nat.le_refl _)]
  · rw [btw_at (by omega), show (k : Int) - (i : Int) - 1 = ((k - i - 1 : Nat) : Int) by omega, tab_at (by omega) (by omega), show i + (k - i - 1) + 1 = k by omega]
/-- One row of the table, as far as it is filled. -/
def rowTo (l : List Int) (f q : Nat) : List Int := (List.range (l.length - f)).map fun k => if k < q then C l f (f + k + 1) else 0
theorem rowTo_zero {f : Nat} {n : Int} (h : n = ((l.length - f : Nat) : Int)) : List.replicate (List.replicate n.toNat (0 : Int)).length (0 : Int) = rowTo l f 0 := by
  subst h
  refine List.ext_getElem (by simp [rowTo]) fun i h1 h2 => ?_
  simp [rowTo]
theorem rowTo_length {f q : Nat} : (rowTo l f q).length = l.length - f := by simp [rowTo]
theorem rowTo_set {f q : Nat} (h : q < l.length - f) {x : Int} (hx : x = C l f (f + q + 1)) : (rowTo l f q).set ((q : Int)).toNat x = rowTo l f (q + 1) := by
  subst hx
  refine List.ext_getElem (by simp [rowTo]) fun i h1 h2 => ?_
  rw [List.getElem_set]
  simp only [rowTo, List.getElem_map, List.getElem_range, Int.toNat_natCast]
  split
  · rename_i e; subst e; rw [if_pos (by omega)]
  · rename_i e
    by_cases h3 : i < q
    · rw [if_pos h3, if_pos (by omega)]
    · rw [if_neg h3, if_neg (by omega)]
theorem rowTo_all {f q : Nat} (h : l.length - f ≤ q) : rowTo l f q = (List.range (l.length - f)).map fun k => C l f (f + k + 1) := by
  refine List.ext_getElem (by simp [rowTo]) fun i h1 h2 => ?_
  simp only [rowTo, List.length_map, List.length_range] at h1
  simp only [rowTo, List.getElem_map, List.getElem_range]
  rw [if_pos (by omega)]
def boundsR (w : List Int) : List (List Int) × Int := if ckW w ≠ 0 then ([], ckW w) else (tab w, 0)
theorem bo1 (h : ¬ ckW l = 0) : boundsR l = ([], ckW l) := if_pos h
theorem bo2 (h : ckW l = 0) : boundsR l = (tab l, 0) := if_neg fun k => k h
/-- Bounds of the right form. -/
def Shaped (w : List Int) (R : List (List Int)) : Prop := R.length = w.length ∧ ∀ i : Nat, i < w.length → (nth R (i : Int)).length = w.length - i
instance {w : List Int} {R : List (List Int)} : Decidable (Shaped w R) := by unfold Shaped; infer_instance
def Sized (w : List Int) (R : List (List Int)) : Prop := ∀ i : Nat, i < w.length → ∀ x ∈ nth R (i : Int), 0 ≤ x ∧ x ≤ 1099511627776
instance {w : List Int} {R : List (List Int)} : Decidable (Sized w R) := by unfold Sized; infer_instance
def Held (w : List Int) (R : List (List Int)) : Prop := ∀ e : Nat, e < w.length + 1 → ∀ s : Nat, s < e → ∀ r : Nat, r < e → s ≤ r → btw R s e ≤ (P w e - P w s) + btw R s r + btw R (r + 1) e
instance {w : List Int} {R : List (List Int)} : Decidable (Held w R) := by unfold Held; infer_instance
def ckB (w : List Int) (R : List (List Int)) : Int × Int := if ckW w ≠ 0 then (0, ckW w) else if ¬ Shaped w R then (0, 15) else if ¬ Sized w R then (0, 3) else if ¬ Held w R then (0, 14) else (btw R 0 (w.length : Int), 0)
variable {R : List (List Int)}
theorem cb1 (h : ¬ ckW l = 0) : ckB l R = (0, ckW l) := if_pos h
theorem cb2 (h : ckW l = 0) (h2 : ¬ Shaped l R) : ckB l R = (0, 15) := by unfold ckB; rw [if_neg (fun k => k h), if_pos h2]
theorem cb3 (h : ckW l = 0) (h2 : Shaped l R) (h3 : ¬ Sized l R) : ckB l R = (0, 3) := by unfold ckB; rw [if_neg (fun k => k h), if_neg (fun k => k h2), if_pos h3]
theorem cb4 (h : ckW l = 0) (h2 : Shaped l R) (h3 : Sized l R) (h4 : ¬ Held l R) : ckB l R = (0, 14) := by unfold ckB; rw [if_neg (fun k => k h), if_neg (fun k => k h2), if_neg (fun k => k h3), if_pos h4]
theorem cb5 (h : ckW l = 0) (h2 : Shaped l R) (h3 : Sized l R) (h4 : Held l R) : ckB l R = (btw R 0 (l.length : Int), 0) := by unfold ckB; rw [if_neg (fun k => k h), if_neg (fun k => k h2), if_neg (fun k => k h3), if_neg (fun k => k h4)]
theorem Sized.bd (h : Sized l R) (hs : Shaped l R) {a b : Nat} (hb : b ≤ l.length) : 0 ≤ btw R (a : Int) (b : Int) ∧ btw R (a : Int) (b : Int) ≤ 1099511627776 := by
  by_cases e : b ≤ a
  · rw [btw_nil (by omega)]; omega
  · rw [btw_at (by omega), show (b : Int) - (a : Int) - 1 = ((b - a - 1 : Nat) : Int) by omega]
    have hr := hs.2 a (by omega)
    rw [nth_nat (by rw [hr]; omega)]
    exact h a (by omega) _ (List.getElem_mem _)
theorem Shaped.at (hs : Shaped l R) {a b : Int} (ha : 0 ≤ a) (hb : b ≤ (l.length : Int)) (h : a < b) : 0 ≤ a ∧ a < (R.length : Int) ∧ b - a - 1 < ((nth R a).length : Int) := by
  have hr := hs.2 a.toNat (by omega)
  rw [Int.toNat_of_nonneg ha] at hr
  have := hs.1
  refine ⟨ha, by omega, by omega⟩
/-- Bounds that hold are not above the costs. -/
theorem Held.le (h : Held l R) (hs : Shaped l R) {a b : Nat} (hab : a ≤ b) (hb : b ≤ l.length) : btw R (a : Int) (b : Int) ≤ C l a b := by
  refine bounds_le (w := l) (g := fun i k => btw R (i : Int) (k : Int)) (m := l.length) (fun i => btw_nil (Int.le_refl _)) (fun i k r h1 h2 h3 => ?_) _ a b (Nat.le_refl _) hab hb
  have := h k (by omega) i (by omega) r h2 h1
  show btw R (i : Int) (k : Int) ≤ (P l k - P l i) + (btw R (i : Int) (r : Int) + btw R ((r + 1 : Nat) : Int) (k : Int))
  rw [show ((r + 1 : Nat) : Int) = (r : Int) + 1 by omega]
  omega
theorem tab_held : Held l (tab l) := fun e he s hs r hr hsr => by
  rw [show (r : Int) + 1 = ((r + 1 : Nat) : Int) by omega, btw_tab (by omega) (by omega), btw_tab hsr (by omega), btw_tab (by omega) (by omega)]
  have := C_le (w := l) hsr hr
  unfold K at this
  omega
theorem tab_shaped : Shaped l (tab l) := ⟨tab_length, fun i hi => tab_row hi⟩
theorem tab_sized (hw : ∀ x ∈ l, 0 ≤ x ∧ x ≤ 1000) (hn : l.length ≤ 12) : Sized l (tab l) := fun i hi x hx => by
  rw [nth_tab hi] at hx
  obtain ⟨k, hk, rfl⟩ := List.mem_map.1 hx
  have := List.mem_range.1 hk
  have := C_small hw hn (i := i) (k := i + k + 1) (by omega)
  omega
/-- Of the spans that came up none breaks the bounds. -/
def Kept (w : List Int) (R : List (List Int)) (s e : Nat) : Prop := ∀ r : Nat, r < e → s ≤ r → btw R s e ≤ (P w e - P w s) + btw R s r + btw R (r + 1) e
/-- While the map's spans come up. -/
def Ups (w : List Int) (R : List (List Int)) (es : Array MapEntry) (seen : Array Nat) : Prop := ∀ x ∈ es.toList, x.born ∈ seen.toList → ∀ s e : Nat, x.key = kvS ((s : Int), (e : Int)) → Kept w R s e
theorem Ups.start {es : Array MapEntry} : Ups l R es #[] := fun x _ h => by simp at h
theorem Ups.next {es : Array MapEntry} {clock : Nat} {m : Mm} (he : Ents kvS vvI es clock m) {seen : Array Nat} (h : Ups l R es seen) {x : MapEntry} (hx : x ∈ es.toList) {s e : Nat} (hk : x.key = kvS ((s : Int), (e : Int))) (h2 : Kept l R s e) : Ups l R es (seen.push x.born) := fun y hy hys a b hab => by
  rcases (by simpa using hys : y.born ∈ seen.toList ∨ y.born = x.born) with h1 | h1
  · exact h y hy h1 a b hab
  · have := he.inj hy hx h1
    subst this
    rw [hk] at hab
    have := kvS_inj hab
    simp only [Prod.mk.injEq] at this
    have e1 : a = s := by omega
    have e2 : b = e := by omega
    rw [e1, e2]; exact h2
theorem Ups.done {es : Array MapEntry} {clock : Nat} {m : Mm} (he : Ents kvS vvI es clock m) (hf : Full l m) {seen : Array Nat} (h : Ups l R es seen) (hall : ∀ e ∈ es.toList, e.born ∈ seen.toList) : Held l R := fun e h1 s h2 r h3 h4 => by
  obtain ⟨x, hx, hk, _⟩ := he.of_find (hf.has s e h2 (by omega))
  exact h x hx (hall x hx) s e hk r h3 h4
theorem Full.entry {es : Array MapEntry} {clock : Nat} {m : Mm} (he : Ents kvS vvI es clock m) (hf : Full l m) {x : MapEntry} (hx : x ∈ es.toList) : ∃ i k : Nat, x.key = kvS ((i : Int), (k : Int)) ∧ (∃ v, x.val = vvI v) ∧ i < k ∧ k ≤ l.length := by
  obtain ⟨p, v, h1, h2, h3⟩ := he.entry hx
  obtain ⟨i, k, rfl, h4, h5, _⟩ := hf.only p v h3
  exact ⟨i, k, h1, ⟨v, h2⟩, h4, h5⟩
end Go.Fip.Q

set_option linter.unusedVariables false
set_option linter.unusedSimpArgs false
set_option linter.unusedSectionVars false
set_option linter.unnecessarySimpa false
namespace Go.Fip
open Go.Proofs Go.RowKit

theorem bestTo_fold {α : Type} [Inhabited α] {p : α → α → Bool} {l : List α} : ∀ {k : Nat}, k < l.length → bestTo p l k = (l.tail.take k).foldl (fun out x => if p x out = true then x else out) (nth l 0)
  | 0, _ => rfl
  | k + 1, h => by
    have e : k < l.tail.length := by rw [List.length_tail]; omega
    have e2 : nth l ((k + 1 : Nat) : Int) = l.tail[k] := by rw [nth_nat (by omega)]; simp
    rw [List.take_succ_eq_append_getElem e, List.foldl_append, ← bestTo_fold (k := k) (by omega)]
    show (if _ then _ else _) = (if _ then _ else _)
    rw [e2]
theorem bestTo_minL {l : List Int} (h : 1 ≤ l.length) : bestTo (fun a b : Int => decide (a < b)) l (l.length - 1) = Q.minL l := by
  rw [bestTo_fold (by omega), List.take_of_length_le (by rw [List.length_tail]; omega)]
  unfold Q.minL
  match l, h with
  | a :: l, _ => simp [nth]
theorem bestTo_minT {l : List (List Int)} (h : 1 ≤ l.length) : bestTo (fun a b : List Int => decide (Q.cmpL a b < 0)) l (l.length - 1) = Q.minT l := by
  rw [bestTo_fold (by omega), List.take_of_length_le (by rw [List.length_tail]; omega)]
  unfold Q.minT
  match l, h with
  | a :: l, _ => simp [nth]

theorem c65 {rb mb : Nat} {v : Value} {m : Q.Mm} {w : World} (hb : Bx rb 87 [v, .map (some mb)] w) (hm : Mp Q.kvS Q.vvI mb m w) {a b : Int}  :
    Fn Try.prog 65 [(.pointer (some ⟨rb, 0, none⟩)), (.agg #[(.int .i64 a), (.int .i64 b)])].toArray w (fun u _ => u = .int .i64 ((find (a, b) m).getD 0)) := by
  refine fn_of' (args := [(.pointer (some ⟨rb, 0, none⟩)), (.agg #[(.int .i64 a), (.int .i64 b)])]) Try.func65 rfl (ent Try.func65 (by kernel_rfl) rfl) rfl rfl (fun hH => ?_)
  refine seq (region ?_)
  refine op_box (us := [(.int .i64 a), (.int .i64 b)]) rfl rfl rfl hH (fun b1 w2 hH3 => ?_)
  refine ops_y hH3 rfl rfl (yv_assign rfl) (ops_nil (thn_n (seq ?_)))
  refine region_draw (fun w' => Heap [bx b1 81 [(.int .i64 a), (.int .i64 b)], base w] w') T.mixed (fun w4 hr5 => ?_)
  have hH6 := hH3.redrawn hr5
  refine any_takes [0, 1, 2, 3, 4, 5, 6] (by kernel_rfl) hH6 _ _ _ (by kernel_rfl) ?_
  refine qs_y rfl rfl (yv_move rfl) ?_
  refine qs_y rfl rfl (yv_nilck rfl) ?_
  refine qs_y rfl rfl (yv_field T.f87_1 rfl) ?_
  refine qs_y rfl rfl (yv_load T.one85 rfl (fun _ hw => bx_cell (hb.now hw (n := 1) rfl) rfl)) ?_
  refine qs_y rfl rfl (yv_loadA (cs := [(.int .i64 a), (.int .i64 b)]) T.agg81 rfl rfl (fun _ hw => Heap.cellsw hw (n := 0) rfl (k := 0) rfl)) ?_
  refine qs_y rfl rfl (yv_lookup (k := ((a, b) : Int × Int)) T.m85 rfl rfl (fun _ hw => (hm.now hw (n := 1) rfl))) ?_
  refine qs_y rfl rfl (yv_assign rfl) (qs_nil ?_)
  refine any_done (by kernel_rfl) ?_
  refine thn_n (ret ?_)
  have hH7 := (hH6.sub (List.Sublist.cons _ (List.Sublist.refl _)))
  refine fin hH7 (fun w' hf => (res1 rfl (show RV _ _ _ (.tmp 4) _ from rfl))) (fun w' hf => ?_)
  rfl

theorem c100 {rb mb : Nat} {v : Value} {m : Q.Mm} {w : World} (hb : Bx rb 87 [v, .map (some mb)] w) (hm : Mp Q.kvS Q.vvI mb m w) {a b c : Int} (hc : -1000000 ≤ c) (hc2 : c ≤ 1000000) (hbd : ∀ p, 0 ≤ (find p m).getD 0 ∧ (find p m).getD 0 ≤ 144000)  :
    Fn Try.prog 100 [(.pointer (some ⟨rb, 0, none⟩)), (.agg #[(.int .i64 a), (.int .i64 b)]), (.int .i64 c)].toArray w (fun u _ => u = .int .i64 ((find (a, c) m).getD 0 + (find (c + 1, b) m).getD 0)) := by
  refine fn_of' (args := [(.pointer (some ⟨rb, 0, none⟩)), (.agg #[(.int .i64 a), (.int .i64 b)]), (.int .i64 c)]) Try.func100 rfl (ent Try.func100 (by kernel_rfl) rfl) rfl rfl (fun hH => ?_)
  have hb1 := hbd (a, c)
  have hb2 := hbd (c + 1, b)
  refine seq (region ?_)
  refine op_box (us := [(.int .i64 a), (.int .i64 b)]) rfl rfl rfl hH (fun b1 w2 hH3 => ?_)
  refine ops_y hH3 rfl rfl (yv_assign rfl) (ops_nil (thn_n (seq ?_)))
  refine region_draw (fun w' => Heap [bx b1 81 [(.int .i64 a), (.int .i64 b)], base w] w') T.mixed (fun w4 hr5 => ?_)
  have hH6 := hH3.redrawn hr5
  refine any_takes [0, 1, 2, 3, 4, 5, 6, 7, 8, 9, 10, 11, 12, 13, 14, 15, 16, 17, 18, 19, 20] (by kernel_rfl) hH6 _ _ _ (by kernel_rfl) ?_
  refine qs_y rfl rfl (yv_move rfl) ?_
  refine qs_y rfl rfl (yv_nilck rfl) ?_
  refine qs_y rfl rfl (yv_field T.f87_1 rfl) ?_
  refine qs_y rfl rfl (yv_load T.one85 rfl (fun _ hw => bx_cell (hb.now hw (n := 1) rfl) rfl)) ?_
  refine qs_y rfl rfl (yv_field T.f81_0 rfl) ?_
  refine qs_y rfl rfl (yv_load T.one3 rfl (fun _ hw => Heap.cellw hw (n := 0) rfl rfl)) ?_
  refine qs_y rfl rfl (yv_move rfl) ?_
  refine qs_y rfl rfl (yv_build (v := (.agg #[(.int .i64 a), (.int .i64 c)])) (us := [(0, (.int .i64 a)), (1, (.int .i64 c))]) (fun a ha => by simp [ha.ev (show ev _ (.tmp 12) = some _ from rfl), ha.ev (show ev _ (.tmp 13) = some _ from rfl)]) (fun w => by kernel_rfl)) ?_
  refine qs_y rfl rfl (yv_lookup (k := ((a, c) : Int × Int)) T.m85 rfl rfl (fun _ hw => (hm.now hw (n := 1) rfl))) ?_
  refine qs_y rfl rfl (yv_move rfl) ?_
  refine qs_y rfl rfl (yv_nilck rfl) ?_
  refine qs_y rfl rfl (yv_field T.f87_1 rfl) ?_
  refine qs_y rfl rfl (yv_load T.one85 rfl (fun _ hw => bx_cell (hb.now hw (n := 1) rfl) rfl)) ?_
  refine qs_y rfl rfl (yv_move rfl) ?_
  refine qs_y rfl rfl (yv_add rfl rfl (by omega)) ?_
  refine qs_y rfl rfl (yv_field T.f81_1 rfl) ?_
  refine qs_y rfl rfl (yv_load T.one3 rfl (fun _ hw => Heap.cellw hw (n := 0) rfl rfl)) ?_
  refine qs_y rfl rfl (yv_build (v := (.agg #[(.int .i64 (c + 1)), (.int .i64 b)])) (us := [(0, (.int .i64 (c + 1))), (1, (.int .i64 b))]) (fun a ha => by simp [ha.ev (show ev _ (.tmp 21) = some _ from rfl), ha.ev (show ev _ (.tmp 23) = some _ from rfl)]) (fun w => by kernel_rfl)) ?_
  refine qs_y rfl rfl (yv_lookup (k := ((c + 1, b) : Int × Int)) T.m85 rfl rfl (fun _ hw => (hm.now hw (n := 1) rfl))) ?_
  refine qs_y rfl rfl (yv_add rfl rfl (by omega)) ?_
  refine qs_y rfl rfl (yv_assign rfl) (qs_nil ?_)
  refine any_done (by kernel_rfl) ?_
  refine thn_n (ret ?_)
  have hH7 := (hH6.sub (List.Sublist.cons _ (List.Sublist.refl _)))
  refine fin hH7 (fun w' hf => (res1 rfl (show RV _ _ _ (.tmp 6) _ from rfl))) (fun w' hf => ?_)
  rfl

theorem c103 {a b : Int} {w : World}  :
    Fn Try.prog 103 [(.int .i64 a), (.int .i64 b)].toArray w (fun u _ => u = .bool (decide (a < b))) := by
  refine fn_of' (args := [(.int .i64 a), (.int .i64 b)]) Try.func103 rfl (ent Try.func103 (by kernel_rfl) rfl) rfl rfl (fun hH => ?_)
  refine seq (region (ops_y hH rfl rfl (yv_assign rfl) (ops_nil (thn_n (seq (region (ops_y hH rfl rfl (yv_move rfl) (ops_y hH rfl rfl (yv_move rfl) ?_))))))))
  refine ops_y hH rfl rfl (yv_lss rfl rfl) ?_
  refine ops_y hH rfl rfl (yv_assign rfl) (ops_nil (thn_n (ret ?_)))
  refine fin hH (fun w' hf => (res1 rfl (show RV _ _ _ (.tmp 4) _ from rfl))) (fun w' hf => ?_)
  rfl

theorem c102 {v : Value} {l : List Int} {w : World} (h0 : Rd encI 1 v l w) (hn : 1 ≤ l.length) (hn2 : l.length ≤ 1000000)  :
    Fn Try.prog 102 [v, (.func (.func 103) #[] #[])].toArray w (fun u _ => u = .int .i64 (Q.minL l)) := by
  refine fn_of' (args := [v, (.func (.func 103) #[] #[])]) Try.func102 rfl (ent Try.func102 (by kernel_rfl) rfl) rfl rfl (fun hH => ?_)
  have hd : (l.drop 1).length = l.length - 1 := List.length_drop
  refine seq (region (ops_y hH rfl rfl (yv_assign rfl) (ops_nil (thn_n (seq (region (ops_y hH rfl rfl (yv_move rfl) ?_)))))))
  refine ops_y hH rfl rfl (yv_index T.sl30 rfl rfl (h0.now hH (n := 0) rfl).is (by omega)) ?_
  refine ops_y hH rfl rfl (yv_load T.one2 rfl (fun _ hw => Rd.at (h0.now hw (n := 0) rfl) (i := 0) (by omega) (j := 0) rfl)) ?_
  refine ops_y hH rfl rfl (yv_assign rfl) (ops_nil (thn_n (seq (seq (region (ops_y hH rfl rfl (yv_move rfl) ?_))))))
  refine ops_y hH rfl rfl (yv_cut_lo T.sl30 rfl rfl (h0.now hH (n := 0) rfl).is (by omega)) ?_
  refine ops_y hH rfl rfl (yv_len T.sl30 rfl (Rd.from (h0.now hH (n := 0) rfl) (lo := 1) (by omega)).is) ?_
  refine ops_y hH rfl rfl (yv_move rfl) (ops_nil (thn_n (block ?_)))
  refine loop (S := Nat) (fun k => [(14, (.int .i64 (k : Int))), (5, (.int .i64 (bestTo (fun a b : Int => decide (a < b)) l k))), (1, (.func (.func 103) #[] #[])), (4, (.int .i64 0)), (12, (cutv v 1 1 l.length)), (13, (.int .i64 ((l.drop 1).length : Int)))]) (fun k w1 => Heap [base w] w1 ∧ k ≤ (l.drop 1).length) (fun k => (l.drop 1).length - k) (0) (Sub.cons rfl (Sub.cons rfl (Sub.cons rfl (Sub.cons rfl (Sub.cons rfl (Sub.cons rfl (Sub.nil _))))))) ?_ ?_
  · exact ⟨hH, by omega⟩
  · rintro k w1 ⟨hH2, hk⟩
    show Holds _ _ _ _ _ [(14, (.int .i64 (k : Int))), (5, (.int .i64 (bestTo (fun a b : Int => decide (a < b)) l k))), (1, (.func (.func 103) #[] #[])), (4, (.int .i64 0)), (12, (cutv v 1 1 l.length)), (13, (.int .i64 ((l.drop 1).length : Int)))] _ _
    refine seq (region ?_)
    refine ops_y hH2 rfl rfl (yv_lss rfl rfl) ?_
    refine ops_nil (thn_n (seq ?_))
    by_cases hc3 : (k : Int) < ((l.drop 1).length : Int)
    · skip
      refine cond_t rfl (decide_eq_true hc3) ?_
      refine skip (thn_n (seq (block (seq (region ?_)))))
      refine ops_y hH2 rfl rfl (yv_index T.sl30 rfl rfl (Rd.from (h0.now hH2 (n := 0) rfl) (lo := 1) (by omega)).is (by omega)) ?_
      refine ops_y hH2 rfl rfl (yv_load T.one2 rfl (fun _ hw => Rd.at (Rd.from (h0.now hw (n := 0) rfl) (lo := 1) (by omega)) (i := (k : Int)) (by omega) (j := 0) rfl)) ?_
      refine ops_y hH2 rfl rfl (yv_assign rfl) (ops_nil (thn_n (seq (region (ops_y hH2 rfl rfl (yv_move rfl) (ops_y hH2 rfl rfl (yv_move rfl) (ops_y hH2 rfl rfl (yv_move rfl) ?_)))))))
      refine op_fnV rfl rfl rfl hH2 (c103) (fun w4 hH5 => ?_)
      refine ops_nil (thn_n ?_)
      by_cases hc6 : (fun a b : Int => decide (a < b)) (nth (l.drop 1) (k : Int)) (bestTo (fun a b : Int => decide (a < b)) l k) = true
      · skip
        have hp : (fun a b : Int => decide (a < b)) (nth (l.drop 1) (k : Int)) (bestTo (fun a b : Int => decide (a < b)) l k) = true := hc6
        refine cond_t rfl hc6 ?_
        refine region (ops_y hH5 rfl rfl (yv_move rfl) (ops_y hH5 rfl rfl (yv_assign rfl) (ops_nil (blk_n (thn_n (region ?_))))))
        refine ops_y hH5 rfl rfl (yv_add rfl rfl (by omega)) ?_
        refine ops_y hH5 rfl rfl (yv_move rfl) (ops_nil ?_)
        refine lp_n (k + 1) (Sub.cons rfl (Sub.cons (by first | (rw [bestTo_t hp]; rfl) | (rw [bestTo_f hp]; rfl)) (Sub.cons rfl (Sub.cons rfl (Sub.cons rfl (Sub.cons rfl (Sub.nil _))))))) ?_ ?_
        · exact ⟨hH5, by omega⟩
        · first | (dsimp only; omega) | (show _ < _; omega)
      · skip
        have hp : (fun a b : Int => decide (a < b)) (nth (l.drop 1) (k : Int)) (bestTo (fun a b : Int => decide (a < b)) l k) = false := (Bool.eq_false_iff.2 hc6)
        refine cond_f rfl (Bool.eq_false_iff.2 hc6) ?_
        refine skip (blk_n (thn_n (region ?_)))
        refine ops_y hH5 rfl rfl (yv_add rfl rfl (by omega)) ?_
        refine ops_y hH5 rfl rfl (yv_move rfl) (ops_nil ?_)
        refine lp_n (k + 1) (Sub.cons rfl (Sub.cons (by first | (rw [bestTo_t hp]; rfl) | (rw [bestTo_f hp]; rfl)) (Sub.cons rfl (Sub.cons rfl (Sub.cons rfl (Sub.cons rfl (Sub.nil _))))))) ?_ ?_
        · exact ⟨hH5, by omega⟩
        · first | (dsimp only; omega) | (show _ < _; omega)
    · skip
      refine cond_f rfl (decide_eq_false hc3) ?_
      refine exit (thn_x (lp_x (blk_here (thn_n (seq (region (ops_y hH2 rfl rfl (yv_move rfl) (ops_y hH2 rfl rfl (yv_assign rfl) (ops_nil ?_)))))))))
      refine thn_n (ret ?_)
      refine fin hH2 (fun w' hf => (res1 rfl (show RV _ _ _ (.tmp 4) _ from rfl))) (fun w' hf => ?_)
      have hk2 : k = l.length - 1 := by omega
      subst hk2; exact congrArg (Value.int .i64) (bestTo_minL hn)

theorem c89 {v : Value} {l : List Int} {w : World} (h0 : Rd encI 1 v l w) (hl1 : 1 ≤ l.length) (hn : l.length ≤ 12) (hw : ∀ x ∈ l, 0 ≤ x ∧ x ≤ 1000)  :
    Fn Try.prog 89 [v].toArray w (fun u w => ∃ rb : Nat, u = .pointer (some ⟨rb, 0, none⟩) ∧ RowEx Q.kvS Q.vvI (Q.Full l) 87 rb v w) := by
  refine fn_of' (args := [v]) Try.func89 rfl (ent Try.func89 (by kernel_rfl) rfl) rfl rfl (fun hH => ?_)
  refine seq (region (ops_y hH rfl rfl (yv_assign rfl) (ops_nil (thn_n (seq (region (ops_y hH rfl rfl (yv_move rfl) ?_)))))))
  obtain ⟨_, _, hb1, _⟩ := (h0.now hH (n := 0) rfl).is
  refine ops_y hH rfl rfl (yv_build (v := (.agg #[v])) (us := [(0, v)]) (fun a ha => by simp [ha.ev (show ev _ (.tmp 10) = some _ from rfl)]) (fun w => by rw [hb1]; kernel_rfl)) ?_
  refine op_makeMap Q.kvS Q.vvI rfl hH (fun b2 w3 hH4 => ?_)
  refine ops_y hH4 rfl rfl (yv_build (v := (.agg #[v, (.map (some b2))])) (us := [(0, (.agg #[v])), (1, (.map (some b2)))]) (fun a ha => by simp [ha.ev (show ev _ (.tmp 11) = some _ from rfl), ha.ev (show ev _ (.tmp 12) = some _ from rfl)]) (fun w => by kernel_rfl)) ?_
  refine op_box (us := [v, (.map (some b2))]) rfl rfl rfl hH4 (fun b5 w6 hH7 => ?_)
  refine ops_y hH7 rfl rfl (yv_assign rfl) (ops_nil (thn_n (seq (seq (region (ops_y hH7 rfl rfl (yv_move rfl) ?_))))))
  refine ops_y hH7 rfl rfl (yv_len T.sl30 rfl (h0.now hH7 (n := 2) rfl).is) ?_
  refine ops_y hH7 rfl rfl (yv_add rfl rfl (by omega)) ?_
  refine ops_y hH7 rfl rfl (yv_move rfl) (ops_nil (thn_n (block ?_)))
  refine loop (S := Nat × Q.Mm) (fun (d, m) => [(18, (.int .i64 (d : Int))), (0, v), (2, (.pointer none)), (3, (.pointer (some ⟨b5, 0, none⟩))), (17, (.int .i64 ((l.length : Int) + 1)))]) (fun (d, m) w1 => Heap [bx b5 87 [v, (.map (some b2))], mp Q.kvS Q.vvI b2 m, base w] w1 ∧ d ≤ l.length + 1 ∧ Q.Part l d 0 m) (fun (d, m) => l.length + 1 - d) (0, []) (Sub.cons rfl (Sub.cons rfl (Sub.cons rfl (Sub.cons rfl (Sub.cons rfl (Sub.nil _)))))) ?_ ?_
  · exact ⟨hH7, by omega, Q.Part.start⟩
  · rintro ⟨d, m⟩ w8 ⟨hH9, hd, hP⟩
    show Holds _ _ _ _ _ [(18, (.int .i64 (d : Int))), (0, v), (2, (.pointer none)), (3, (.pointer (some ⟨b5, 0, none⟩))), (17, (.int .i64 ((l.length : Int) + 1)))] _ _
    refine seq (region ?_)
    refine ops_y hH9 rfl rfl (yv_lss rfl rfl) ?_
    refine ops_nil (thn_n (seq ?_))
    by_cases hc10 : (d : Int) < ((l.length : Int) + 1)
    · skip
      refine cond_t rfl (decide_eq_true hc10) ?_
      refine skip (thn_n (seq (block (seq (region (ops_y hH9 rfl rfl (yv_move rfl) (ops_y hH9 rfl rfl (yv_assign rfl) (ops_nil (thn_n ?_)))))))))
      refine seq (region (ops_y hH9 rfl rfl (yv_move rfl) ?_))
      refine ops_y hH9 rfl rfl (yv_len T.sl30 rfl (h0.now hH9 (n := 2) rfl).is) ?_
      refine ops_y hH9 rfl rfl (yv_move rfl) ?_
      refine ops_y hH9 rfl rfl (yv_sub rfl rfl (by omega)) ?_
      refine ops_y hH9 rfl rfl (yv_add rfl rfl (by omega)) ?_
      refine ops_y hH9 rfl rfl (yv_move rfl) (ops_nil (thn_n (block ?_)))
      refine loop (S := Nat × Q.Mm) (fun (f, m2) => [(26, (.int .i64 (f : Int))), (0, v), (2, (.pointer none)), (3, (.pointer (some ⟨b5, 0, none⟩))), (4, (.int .i64 (d : Int))), (17, (.int .i64 ((l.length : Int) + 1))), (18, (.int .i64 (d : Int))), (25, (.int .i64 (((l.length : Int) - (d : Int)) + 1)))]) (fun (f, m2) w1 => Heap [bx b5 87 [v, (.map (some b2))], mp Q.kvS Q.vvI b2 m2, base w] w1 ∧ f ≤ l.length - d + 1 ∧ Q.Part l d f m2) (fun (f, m2) => l.length - d + 1 - f) (0, m) (Sub.cons rfl (Sub.cons rfl (Sub.cons rfl (Sub.cons rfl (Sub.cons rfl (Sub.cons rfl (Sub.cons rfl (Sub.cons rfl (Sub.nil _))))))))) ?_ ?_
      · exact ⟨hH9, by omega, hP⟩
      · rintro ⟨f, m2⟩ w11 ⟨hH12, hf, hp2⟩
        show Holds _ _ _ _ _ [(26, (.int .i64 (f : Int))), (0, v), (2, (.pointer none)), (3, (.pointer (some ⟨b5, 0, none⟩))), (4, (.int .i64 (d : Int))), (17, (.int .i64 ((l.length : Int) + 1))), (18, (.int .i64 (d : Int))), (25, (.int .i64 (((l.length : Int) - (d : Int)) + 1)))] _ _
        refine seq (region ?_)
        refine ops_y hH12 rfl rfl (yv_lss rfl rfl) ?_
        refine ops_nil (thn_n (seq ?_))
        by_cases hc13 : (f : Int) < (((l.length : Int) - (d : Int)) + 1)
        · skip
          refine cond_t rfl (decide_eq_true hc13) ?_
          refine skip (thn_n (seq (block (seq (region (ops_y hH12 rfl rfl (yv_move rfl) (ops_y hH12 rfl rfl (yv_assign rfl) (ops_nil (thn_n ?_)))))))))
          refine seq (region (ops_y hH12 rfl rfl (yv_move rfl) (ops_y hH12 rfl rfl (yv_move rfl) (ops_y hH12 rfl rfl (yv_move rfl) ?_))))
          refine ops_y hH12 rfl rfl (yv_cast (show (f : Int) + (d : Int) = ((f + d : Nat) : Int) by omega) (yv_add rfl rfl (by omega))) ?_
          refine ops_y hH12 rfl rfl (yv_build (v := (.agg #[(.int .i64 (f : Int)), (.int .i64 ((f + d : Nat) : Int))])) (us := [(0, (.int .i64 (f : Int))), (1, (.int .i64 ((f + d : Nat) : Int)))]) (fun a ha => by simp [ha.ev (show ev _ (.tmp 29) = some _ from rfl), ha.ev (show ev _ (.tmp 32) = some _ from rfl)]) (fun w => by kernel_rfl)) ?_
          refine op_alloc (z := (.agg #[(.int .i64 0), (.int .i64 0)])) (us := [(.int .i64 0), (.int .i64 0)]) (fun _ => by kernel_rfl) rfl rfl hH12 (fun b14 w15 hH16 => ?_)
          refine op_store (n := 0) (j := 0) (us := [(.int .i64 (f : Int)), (.int .i64 ((f + d : Nat) : Int))]) rfl rfl hH16 rfl T.sz81 rfl rfl rfl (by rfl) (fun w17 hH18 => ?_)
          refine ops_nil (thn_n (seq (seq (region (ops_y hH18 rfl rfl (yv_move rfl) ?_)))))
          refine ops_y hH18 rfl rfl (yv_eql rfl rfl) ?_
          refine ops_nil (thn_n ?_)
          by_cases hc19 : (d : Int) = 0
          · skip
            refine cond_t rfl (decide_eq_true hc19) ?_
            refine seq ?_
            refine region_draw (fun w' => Heap [bx b14 81 [(.int .i64 (f : Int)), (.int .i64 ((f + d : Nat) : Int))], bx b5 87 [v, (.map (some b2))], base w] w') T.mixed (fun w20 hr21 => ?_)
            have hH22 := hH18.redrawn hr21
            refine any_takes [0, 1, 2, 3, 4] (by kernel_rfl) (hH22.sub (List.Sublist.cons_cons _ (List.Sublist.cons_cons _ (List.Sublist.cons _ (List.Sublist.refl _))))) _ _ _ (by kernel_rfl) ?_
            refine qs_y rfl rfl (yv_move rfl) ?_
            refine qs_y rfl rfl (yv_nilck rfl) ?_
            refine qs_y rfl rfl (yv_field T.f87_1 rfl) ?_
            refine qs_y rfl rfl (yv_load T.one85 rfl (fun _ hw => Heap.cellw hw (n := 1) rfl rfl)) ?_
            refine qs_y rfl rfl (yv_loadA (cs := [(.int .i64 (f : Int)), (.int .i64 ((f + d : Nat) : Int))]) T.agg81 rfl rfl (fun _ hw => Heap.cellsw hw (n := 0) rfl (k := 0) rfl)) ?_
            refine qs_nil ?_
            refine any_all [5] (by kernel_rfl) rfl ?_
            refine ⟨⟨_, rfl, ?_⟩, trivial⟩
            · skip
              refine op_update (n := 2) (k := (((f : Int), ((f + d : Nat) : Int)) : Int × Int)) (v := 0) T.m85 rfl rfl rfl hH22 rfl (fun w23 hH24 => ?_)
              refine ops_nil ?_
              refine ⟨(hH24.sub (List.Sublist.cons_cons _ (List.Sublist.cons_cons _ (List.Sublist.cons _ (List.Sublist.refl _))))), ?_⟩
              refine any_done (by kernel_rfl) ?_
              refine thn_n (exit (thn_x (blk_here (thn_n (region ?_)))))
              refine ops_y hH24 rfl rfl (yv_add rfl rfl (by omega)) ?_
              refine ops_y hH24 rfl rfl (yv_move rfl) (ops_nil ?_)
              have hH25 := (hH24.sub (List.Sublist.cons _ (List.Sublist.refl _)))
              refine lp_n (f + 1, (upd (((f : Int), ((f + d : Nat) : Int)) : Int × Int) 0 m2)) (Sub.cons rfl (Sub.cons rfl (Sub.cons rfl (Sub.cons rfl (Sub.cons rfl (Sub.cons rfl (Sub.cons rfl (Sub.cons rfl (Sub.nil _))))))))) ?_ ?_
              · exact ⟨hH25, by omega, by first | exact hp2.add (by omega) rfl rfl (by rw [Q.C_nil (by omega)]) | exact hp2.add (by omega) rfl rfl rfl⟩
              · first | (dsimp only; omega) | (show _ < _; omega)
          · skip
            refine cond_f rfl (decide_eq_false hc19) ?_
            refine skip (thn_n (seq (region (ops_y hH18 rfl rfl (yv_assign rfl) (ops_nil (thn_n (seq (seq (region ?_)))))))))
            refine ops_y hH18 rfl rfl (yv_field T.f81_0 rfl) ?_
            refine ops_y hH18 rfl rfl (yv_load T.one3 rfl (fun _ hw => Heap.cellw hw (n := 0) rfl rfl)) ?_
            refine ops_y hH18 rfl rfl (yv_assign rfl) (ops_nil (thn_n (block ?_)))
            have hH26 := ow_nil (enc := encI) 2 1 hH18
            refine loop (S := Nat × Value × Nat × Nat) (fun (j, v_7, lo_7, hi_7) => [(8, (.int .i64 ((f + j : Nat) : Int))), (7, v_7), (0, v), (2, (.pointer none)), (3, (.pointer (some ⟨b5, 0, none⟩))), (4, (.int .i64 (d : Int))), (6, (.pointer (some ⟨b14, 0, none⟩))), (17, (.int .i64 ((l.length : Int) + 1))), (18, (.int .i64 (d : Int))), (25, (.int .i64 (((l.length : Int) - (d : Int)) + 1))), (26, (.int .i64 (f : Int)))]) (fun (j, v_7, lo_7, hi_7) w1 => Heap [ow lo_7 hi_7 2 1 encI v_7 (Q.candTo l f (f + d) j), bx b14 81 [(.int .i64 (f : Int)), (.int .i64 ((f + d : Nat) : Int))], bx b5 87 [v, (.map (some b2))], mp Q.kvS Q.vvI b2 m2, base w] w1 ∧ j ≤ d) (fun (j, v_7, lo_7, hi_7) => d - j) (0, (.slice none 0 0), w17.heap.size, w17.heap.size) (Sub.cons (congrArg (fun z : Int => some (Value.int .i64 z)) (by omega)) (Sub.cons rfl (Sub.cons rfl (Sub.cons rfl (Sub.cons rfl (Sub.cons rfl (Sub.cons rfl (Sub.cons rfl (Sub.cons rfl (Sub.cons rfl (Sub.cons rfl (Sub.nil _)))))))))))) ?_ ?_
            · exact ⟨(Heap.recast (n := 0) hH26 rfl (rfl)), by omega⟩
            · rintro ⟨j, v_7, lo_7, hi_7⟩ w27 ⟨hH28, hj⟩
              show Holds _ _ _ _ _ [(8, (.int .i64 ((f + j : Nat) : Int))), (7, v_7), (0, v), (2, (.pointer none)), (3, (.pointer (some ⟨b5, 0, none⟩))), (4, (.int .i64 (d : Int))), (6, (.pointer (some ⟨b14, 0, none⟩))), (17, (.int .i64 ((l.length : Int) + 1))), (18, (.int .i64 (d : Int))), (25, (.int .i64 (((l.length : Int) - (d : Int)) + 1))), (26, (.int .i64 (f : Int)))] _ _
              refine seq (seq (region (ops_y hH28 rfl rfl (yv_move rfl) ?_)))
              refine ops_y hH28 rfl rfl (yv_field T.f81_1 rfl) ?_
              refine ops_y hH28 rfl rfl (yv_load T.one3 rfl (fun _ hw => Heap.cellw hw (n := 1) rfl rfl)) ?_
              refine ops_y hH28 rfl rfl (yv_lss rfl rfl) ?_
              refine ops_nil (thn_n ?_)
              by_cases hc29 : ((f + j : Nat) : Int) < ((f + d : Nat) : Int)
              · skip
                refine cond_t rfl (decide_eq_true hc29) ?_
                refine skip (thn_n (seq (block ?_)))
                have hq1 : (find ((f : Int), ((f + j : Nat) : Int)) m2).getD 0 = Q.C l f (f + j) := hp2.get (by omega) (by omega) (by omega)
                have hq2 : (find (((f + j : Nat) : Int) + 1, ((f + d : Nat) : Int)) m2).getD 0 = Q.C l (f + j + 1) (f + d) := hp2.get (i := f + j + 1) (k := f + d) (by omega) (by omega) (by omega)
                have hcb1 := Q.C_small hw hn (i := f) (k := f + j) (by omega)
                have hcb2 := Q.C_small hw hn (i := f + j + 1) (k := f + d) (by omega)
                have hpb := Q.P_bd hw (i := f) d (by omega)
                have hcl := Q.candTo_len (w := l) (i := f) (k := f + d) (j := j)
                refine region_draw (fun w' => Heap [bx b14 81 [(.int .i64 (f : Int)), (.int .i64 ((f + d : Nat) : Int))], bx b5 87 [v, (.map (some b2))], mp Q.kvS Q.vvI b2 m2, base w] w') T.mixed (fun w30 hr31 => ?_)
                have hH32 := hH28.redrawn hr31
                refine any_takes [0, 1, 2, 3, 4, 5, 7, 8, 9] (by kernel_rfl) (hH32.sub (List.Sublist.cons _ (List.Sublist.refl _))) _ _ _ (by kernel_rfl) ?_
                refine qs_y rfl rfl (yv_move rfl) (qs_y rfl rfl (yv_move rfl) ?_)
                refine qs_y rfl rfl (yv_nilck rfl) ?_
                refine qs_y rfl rfl (yv_field T.f87_0 rfl) ?_
                refine qs_y rfl rfl (yv_loadA (cs := [v]) T.agg84 rfl rfl (fun _ hw => Heap.cellsw hw (n := 1) rfl (k := 0) rfl)) ?_
                refine qs_y rfl rfl (yv_loadA (cs := [(.int .i64 (f : Int)), (.int .i64 ((f + d : Nat) : Int))]) T.agg81 rfl rfl (fun _ hw => Heap.cellsw hw (n := 0) rfl (k := 0) rfl)) ?_
                refine qs_y rfl rfl (yv_move rfl) ?_
                refine qs_y rfl rfl (yv_loadA (cs := [(.int .i64 (f : Int)), (.int .i64 ((f + d : Nat) : Int))]) T.agg81 rfl rfl (fun _ hw => Heap.cellsw hw (n := 0) rfl (k := 0) rfl)) ?_
                refine qs_y rfl rfl (yv_move rfl) (qs_nil ?_)
                refine any_all [6] (by kernel_rfl) rfl ?_
                refine ⟨⟨_, rfl, ?_⟩, trivial⟩
                · skip
                  refine op_fnV rfl rfl rfl hH32 (c78 (i := f) (k := (f + d)) (h0.now hH32 (n := 4) rfl) hw (by omega) (by omega) (by omega)) (fun w33 hH34 => ?_)
                  refine ops_nil ?_
                  refine ⟨(hH34.sub (List.Sublist.cons _ (List.Sublist.refl _))), ?_⟩
                  refine any_all [10] (by kernel_rfl) rfl ?_
                  refine ⟨⟨_, rfl, ?_⟩, trivial⟩
                  · skip
                    have hev37 : Fn Try.prog 100 [(.pointer (some ⟨b5, 0, none⟩)), (.agg #[(.int .i64 (f : Int)), (.int .i64 ((f + d : Nat) : Int))]), (.int .i64 ((f + j : Nat) : Int))].toArray _ _ := c100 (m := m2) (a := (f : Int)) (b := ((f + d : Nat) : Int)) (c := ((f + j : Nat) : Int)) (Heap.bxw hH34 (n := 2) rfl) (Heap.mapw hH34 (n := 3) rfl) (by omega) (by omega) (hp2.bd hw hn)
                    simp only [hq1, hq2] at hev37
                    refine op_fnV rfl rfl rfl hH34 (hev37) (fun w35 hH36 => ?_)
                    refine ops_nil ?_
                    refine ⟨(hH36.sub (List.Sublist.cons _ (List.Sublist.refl _))), ?_⟩
                    refine any_takes [11] (by kernel_rfl) (hH36.sub (List.Sublist.cons _ (List.Sublist.refl _))) _ _ _ (by kernel_rfl) ?_
                    refine qs_y rfl rfl (yv_add rfl rfl (by omega)) ?_
                    refine qs_nil ?_
                    refine any_all [12] (by kernel_rfl) rfl ?_
                    refine ⟨⟨_, rfl, ?_⟩, trivial⟩
                    · skip
                      refine op_lit (us := [(0, (.int .i64 ((Q.P l (f + d) - Q.P l f) + (Q.C l f (f + j) + Q.C l (f + j + 1) (f + d)))))]) T.el30_encI [(Q.P l (f + d) - Q.P l f) + (Q.C l f (f + j) + Q.C l (f + j + 1) (f + d))] rfl (by decide) rfl (fun a ha => by simp [ha.ev (show ev _ (.tmp 60) = some _ from rfl)]) (fun w => by kernel_rfl) hH36 (fun u38 lo40 hi41 w39 hH42 => ?_)
                      refine ops_nil ?_
                      refine ⟨(hH42.sub (List.Sublist.cons _ (List.Sublist.cons _ (List.Sublist.refl _)))), ?_⟩
                      refine any_all [13] (by kernel_rfl) rfl ?_
                      refine ⟨⟨_, rfl, ?_⟩, trivial⟩
                      · skip
                        refine op_append (n := 1) T.el30_encI rfl rfl rfl hH42 rfl (Heap.rdw T.el30_encI hH42 (n := 0) rfl) (by first | omega | (simp only [List.length_append, List.length_cons, List.length_nil]; omega)) (fun u43 lo45 hi46 w44 hH47 => ?_)
                        refine ops_nil ?_
                        refine ⟨(hH47.sub (List.Sublist.cons _ (List.Sublist.cons _ (List.Sublist.refl _)))), ?_⟩
                        refine any_takes [14] (by kernel_rfl) (hH47.sub (List.Sublist.cons _ (List.Sublist.cons _ (List.Sublist.refl _)))) _ _ _ (by kernel_rfl) ?_
                        refine qs_y rfl rfl (yv_assign rfl) (qs_nil ?_)
                        refine any_done (by kernel_rfl) ?_
                        refine blk_n (thn_n (region (ops_y hH47 rfl rfl (yv_move rfl) ?_)))
                        refine ops_y hH47 rfl rfl (yv_add rfl rfl (by omega)) ?_
                        refine ops_y hH47 rfl rfl (yv_assign rfl) (ops_nil ?_)
                        have hH48 := (hH47.sub (List.Sublist.cons _ (List.Sublist.refl _)))
                        refine lp_n (j + 1, u43, lo45, hi46) (Sub.cons (congrArg (fun z : Int => some (Value.int .i64 z)) (by omega)) (Sub.cons rfl (Sub.cons rfl (Sub.cons rfl (Sub.cons rfl (Sub.cons rfl (Sub.cons rfl (Sub.cons rfl (Sub.cons rfl (Sub.cons rfl (Sub.cons rfl (Sub.nil _)))))))))))) ?_ ?_
                        · exact ⟨(Heap.recast (n := 0) hH48 rfl (Q.candTo_succ)), by omega⟩
                        · first | (dsimp only; omega) | (show _ < _; omega)
              · skip
                refine cond_f rfl (decide_eq_false hc29) ?_
                refine exit (thn_x (lp_x (blk_here (thn_n ?_))))
                have hjd : j = d := by omega
                have hcl := Q.candTo_len (w := l) (i := f) (k := f + d) (j := j)
                have hbe : Q.minL (Q.candTo l f (f + d) j) = Q.C l f (f + d) := Q.candTo_all (by omega) (by omega)
                refine region_draw (fun w' => Heap [ow lo_7 hi_7 2 1 encI v_7 (Q.candTo l f (f + d) j), bx b14 81 [(.int .i64 (f : Int)), (.int .i64 ((f + d : Nat) : Int))], bx b5 87 [v, (.map (some b2))], base w] w') T.mixed (fun w49 hr50 => ?_)
                have hH51 := hH28.redrawn hr50
                refine any_takes [0, 1, 2, 3, 4, 5] (by kernel_rfl) (hH51.sub (List.Sublist.cons_cons _ (List.Sublist.cons_cons _ (List.Sublist.cons_cons _ (List.Sublist.cons _ (List.Sublist.refl _)))))) _ _ _ (by kernel_rfl) ?_
                refine qs_y rfl rfl (yv_move rfl) ?_
                refine qs_y rfl rfl (yv_nilck rfl) ?_
                refine qs_y rfl rfl (yv_field T.f87_1 rfl) ?_
                refine qs_y rfl rfl (yv_load T.one85 rfl (fun _ hw => Heap.cellw hw (n := 2) rfl rfl)) ?_
                refine qs_y rfl rfl (yv_loadA (cs := [(.int .i64 (f : Int)), (.int .i64 ((f + d : Nat) : Int))]) T.agg81 rfl rfl (fun _ hw => Heap.cellsw hw (n := 1) rfl (k := 0) rfl)) ?_
                refine qs_y rfl rfl (yv_move rfl) (qs_nil ?_)
                refine any_all [6] (by kernel_rfl) rfl ?_
                refine ⟨⟨_, rfl, ?_⟩, trivial⟩
                · skip
                  have hev54 : Fn Try.prog 102 [v_7, (.func (.func 103) #[] #[])].toArray _ _ := c102 (Heap.rdw T.el30_encI hH51 (n := 0) rfl) (by omega) (by omega)
                  simp only [hbe] at hev54
                  refine op_fnV rfl rfl rfl hH51 (hev54) (fun w52 hH53 => ?_)
                  refine ops_nil ?_
                  refine ⟨(hH53.sub (List.Sublist.cons_cons _ (List.Sublist.cons_cons _ (List.Sublist.cons_cons _ (List.Sublist.cons _ (List.Sublist.refl _)))))), ?_⟩
                  refine any_all [7] (by kernel_rfl) rfl ?_
                  refine ⟨⟨_, rfl, ?_⟩, trivial⟩
                  · skip
                    refine op_update (n := 3) (k := (((f : Int), ((f + d : Nat) : Int)) : Int × Int)) (v := (Q.C l f (f + d))) T.m85 rfl rfl rfl hH53 rfl (fun w55 hH56 => ?_)
                    refine ops_nil ?_
                    refine ⟨(hH56.sub (List.Sublist.cons_cons _ (List.Sublist.cons_cons _ (List.Sublist.cons_cons _ (List.Sublist.cons _ (List.Sublist.refl _)))))), ?_⟩
                    refine any_done (by kernel_rfl) ?_
                    refine blk_n (thn_n (region ?_))
                    refine ops_y hH56 rfl rfl (yv_add rfl rfl (by omega)) ?_
                    refine ops_y hH56 rfl rfl (yv_move rfl) (ops_nil ?_)
                    have hH57 := (hH56.sub (List.Sublist.cons _ (List.Sublist.cons _ (List.Sublist.refl _))))
                    refine lp_n (f + 1, (upd (((f : Int), ((f + d : Nat) : Int)) : Int × Int) (Q.C l f (f + d)) m2)) (Sub.cons rfl (Sub.cons rfl (Sub.cons rfl (Sub.cons rfl (Sub.cons rfl (Sub.cons rfl (Sub.cons rfl (Sub.cons rfl (Sub.nil _))))))))) ?_ ?_
                    · exact ⟨hH57, by omega, by first | exact hp2.add (by omega) rfl rfl (by rw [Q.C_nil (by omega)]) | exact hp2.add (by omega) rfl rfl rfl⟩
                    · first | (dsimp only; omega) | (show _ < _; omega)
        · skip
          refine cond_f rfl (decide_eq_false hc13) ?_
          refine exit (thn_x (lp_x (blk_here (blk_n (thn_n (region ?_))))))
          refine ops_y hH12 rfl rfl (yv_add rfl rfl (by omega)) ?_
          refine ops_y hH12 rfl rfl (yv_move rfl) (ops_nil ?_)
          refine lp_n (d + 1, m2) (Sub.cons rfl (Sub.cons rfl (Sub.cons rfl (Sub.cons rfl (Sub.cons rfl (Sub.nil _)))))) ?_ ?_
          · exact ⟨hH12, by omega, hp2.turn (by omega)⟩
          · first | (dsimp only; omega) | (show _ < _; omega)
    · skip
      refine cond_f rfl (decide_eq_false hc10) ?_
      refine exit (thn_x (lp_x (blk_here (thn_n (seq (seq ?_))))))
      have hpt9 : Q.Part l (l.length + 1) 0 m := (show d = l.length + 1 by omega) ▸ hP
      refine region (ops_y hH9 rfl rfl (yv_move rfl) ?_)
      refine ops_y hH9 rfl rfl (yv_nilck rfl) ?_
      refine ops_y hH9 rfl rfl (yv_field T.f87_1 rfl) ?_
      refine ops_y hH9 rfl rfl (yv_load T.one85 rfl (fun _ hw => Heap.cellw hw (n := 0) rfl rfl)) ?_
      obtain ⟨es, clock, hH58, hv1, hv2, hv3, hv4⟩ := Heap.openMap hH9 (n := 1) rfl
      have hents : Ents Q.kvS Q.vvI es clock m := ⟨hv1, hv2, hv3, hv4⟩
      refine op_range T.m85.und rfl rfl hH58 (Heap.raww hH58 (n := 1) rfl) (fun r59 w60 hH61 => ?_)
      refine ops_nil (thn_n (block ?_))
      refine loop (S := Array MapEntry × Q.Mm × Array Nat) (fun (es2, m3, seen) => [(2, (.pointer none)), (3, (.pointer (some ⟨b5, 0, none⟩))), (76, (.pointer (some ⟨r59, 0, none⟩)))]) (fun (es2, m3, seen) w1 => Heap [raw r59 (.mapIter (some b2) clock seen clock), bx b5 87 [v, (.map (some b2))], raw b2 (.map es2 clock), base w] w1 ∧ Q.Outs l es2 clock m3 seen) (fun (es2, m3, seen) => unseen es2 seen) (es, m, #[]) (Sub.cons rfl (Sub.cons rfl (Sub.cons rfl (Sub.nil _)))) ?_ ?_
      · exact ⟨hH61, Q.Outs.start hents hpt9⟩
      · rintro ⟨es2, m3, seen⟩ w62 ⟨hH63, hO⟩
        show Holds _ _ _ _ _ [(2, (.pointer none)), (3, (.pointer (some ⟨b5, 0, none⟩))), (76, (.pointer (some ⟨r59, 0, none⟩)))] _ _
        refine seq (region ?_)
        refine op_next rfl rfl hH63 (Heap.raww hH63 (n := 2) rfl) (k := 0) rfl hO.ents.born (fun hall64 w68 hH69 => ?_) (fun e65 he66 hns67 w68 hH69 => ?_)
        · skip
          have hfull := hO.full hall64
          refine ops_y hH69 rfl rfl (yv_extract rfl rfl) (ops_nil (thn_n (seq ?_)))
          refine cond_f rfl rfl ?_
          refine exit (thn_x (lp_x (blk_here (thn_n (seq (region (ops_y hH69 rfl rfl (yv_move rfl) (ops_y hH69 rfl rfl (yv_assign rfl) (ops_nil ?_)))))))))
          refine thn_n (ret ?_)
          have hH70 := (hH69.sub (List.Sublist.cons _ (List.Sublist.refl _)))
          refine fin (hH70.front (n := 2) rfl) (fun w' hf => (res1 rfl (show RV _ _ _ (.tmp 2) _ from rfl))) (fun w' hf => ?_)
          exact ⟨_, rfl, _, _, Heap.bxw hf (n := 0) rfl, hO.ents.mp (Heap.raww hf (n := 1) rfl), hfull⟩
        · skip
          obtain ⟨ai, ak, hkey, ⟨xv, hval⟩, hak1, hak2⟩ := hO.entry he66
          have hns := hns67
          have hen := he66
          refine ops_y hH69 rfl rfl (yv_extract rfl rfl) (ops_nil (thn_n (seq ?_)))
          refine cond_t rfl rfl ?_
          refine skip (thn_n (block (seq (region ?_))))
          refine ops_y hH69 rfl rfl (yv_entryK hkey hval rfl he66 hO.ents.bornNd (fun _ hw => (Heap.raww hw (n := 2) rfl)) (fun _ hw => Heap.raww hw (n := 0) rfl)) ?_
          refine ops_y hH69 rfl rfl (yv_extract rfl rfl) ?_
          refine op_alloc (z := (.agg #[(.int .i64 0), (.int .i64 0)])) (us := [(.int .i64 0), (.int .i64 0)]) (fun _ => by kernel_rfl) rfl rfl hH69 (fun b71 w72 hH73 => ?_)
          refine op_store (n := 0) (j := 0) (us := [(.int .i64 (ai : Int)), (.int .i64 (ak : Int))]) rfl rfl hH73 rfl T.sz81 rfl rfl rfl (by rfl) (fun w74 hH75 => ?_)
          refine ops_nil (thn_n (seq (region ?_)))
          refine ops_y hH75 rfl rfl (yv_field T.f81_0 rfl) ?_
          refine ops_y hH75 rfl rfl (yv_load T.one3 rfl (fun _ hw => Heap.cellw hw (n := 0) rfl rfl)) ?_
          refine ops_y hH75 rfl rfl (yv_field T.f81_1 rfl) ?_
          refine ops_y hH75 rfl rfl (yv_load T.one3 rfl (fun _ hw => Heap.cellw hw (n := 0) rfl rfl)) ?_
          refine ops_y hH75 rfl rfl (yv_eql rfl rfl) ?_
          refine ops_nil (thn_n ?_)
          by_cases hc76 : (ai : Int) = (ak : Int)
          · skip
            refine cond_t rfl (decide_eq_true hc76) ?_
            refine region_draw (fun w' => Heap [bx b71 81 [(.int .i64 (ai : Int)), (.int .i64 (ak : Int))], raw r59 (.mapIter (some b2) clock (seen.push e65.born) clock), bx b5 87 [v, (.map (some b2))], base w] w') T.mixed (fun w77 hr78 => ?_)
            have hH79 := hH75.redrawn hr78
            refine any_takes [0, 1, 2, 3, 4] (by kernel_rfl) (hH79.sub (List.Sublist.cons_cons _ (List.Sublist.cons_cons _ (List.Sublist.cons_cons _ (List.Sublist.cons _ (List.Sublist.refl _)))))) _ _ _ (by kernel_rfl) ?_
            refine qs_y rfl rfl (yv_move rfl) ?_
            refine qs_y rfl rfl (yv_nilck rfl) ?_
            refine qs_y rfl rfl (yv_field T.f87_1 rfl) ?_
            refine qs_y rfl rfl (yv_load T.one85 rfl (fun _ hw => Heap.cellw hw (n := 2) rfl rfl)) ?_
            refine qs_y rfl rfl (yv_loadA (cs := [(.int .i64 (ai : Int)), (.int .i64 (ak : Int))]) T.agg81 rfl rfl (fun _ hw => Heap.cellsw hw (n := 0) rfl (k := 0) rfl)) ?_
            refine qs_nil ?_
            refine any_all [5] (by kernel_rfl) rfl ?_
            refine ⟨⟨_, rfl, ?_⟩, trivial⟩
            · skip
              refine op_deleteO (n := 3) (k := (((ai : Int), (ak : Int)) : Int × Int)) T.m85 hO.ents rfl rfl hH79 rfl (fun es9 w80 hents9 hsub9 hH81 => ?_)
              refine ops_nil ?_
              refine ⟨(hH81.sub (List.Sublist.cons_cons _ (List.Sublist.cons_cons _ (List.Sublist.cons_cons _ (List.Sublist.cons _ (List.Sublist.refl _)))))), ?_⟩
              refine any_done (by kernel_rfl) ?_
              refine blk_n ?_
              have hH82 := (hH81.sub (List.Sublist.cons _ (List.Sublist.refl _)))
              refine lp_n (es9, (del ((ai : Int), (ak : Int)) m3), (seen.push e65.born)) (Sub.cons rfl (Sub.cons rfl (Sub.cons rfl (Sub.nil _)))) ?_ ?_
              · exact ⟨hH82, hO.del hen hkey (by omega) hents9 hsub9⟩
              · show _ < _; first | exact unseen_lt hen hns | exact Nat.lt_of_le_of_lt (Q.unseen_sub hsub9) (unseen_lt hen hns)
          · skip
            refine cond_f rfl (decide_eq_false hc76) ?_
            refine skip (blk_n ?_)
            have hH83 := (hH75.sub (List.Sublist.cons _ (List.Sublist.refl _)))
            refine lp_n (es2, m3, (seen.push e65.born)) (Sub.cons rfl (Sub.cons rfl (Sub.cons rfl (Sub.nil _)))) ?_ ?_
            · exact ⟨hH83, hO.keep hen hkey (by omega)⟩
            · show _ < _; first | exact unseen_lt hen hns | exact Nat.lt_of_le_of_lt (Q.unseen_sub hsub9) (unseen_lt hen hns)

end Go.Fip

set_option linter.unusedVariables false
set_option linter.unusedSimpArgs false
set_option linter.unusedSectionVars false
set_option linter.unnecessarySimpa false
namespace Go.Fip
open Go.Proofs Go.RowKit

/-- What an iterator over roots has captured. -/
abbrev Cap2 (b1 b2 rb i k : Nat) (w : World) : Prop := Bx b1 81 [.int .i64 (i : Int), .int .i64 (k : Int)] w ∧ Bx b2 76 [.pointer (some ⟨rb, 0, none⟩)] w
/-- A row, its map, and its weights. -/
abbrev RowD (rb mb : Nat) (v : Value) (l : List Int) (m : Q.Mm) (w : World) : Prop := Bx rb 87 [v, .map (some mb)] w ∧ Mp Q.kvS Q.vvI mb m w ∧ Rd encI 1 v l w
abbrev DR (b1 b2 rb mb : Nat) (v : Value) (l : List Int) (m : Q.Mm) (i k : Nat) (w : World) : Prop := Cap2 b1 b2 rb i k w ∧ RowD rb mb v l m w
theorem RowD.below {rb mb : Nat} {v : Value} {l : List Int} {m : Q.Mm} {w w' : World} (h : RowD rb mb v l m w) (hb : Below w.heap.size w w') : RowD rb mb v l m w' := ⟨h.1.below hb, h.2.1.below hb, h.2.2.below hb⟩
theorem RowD.now {rb mb : Nat} {v : Value} {l : List Int} {m : Q.Mm} {w w' : World} (h : RowD rb mb v l m w) {H : List Item} {n : Nat} (hH : Heap H w') (hn : H[n]? = some (base w)) : RowD rb mb v l m w' := h.below (hH.get hn)
theorem DR.below {b1 b2 rb mb : Nat} {v : Value} {l : List Int} {m : Q.Mm} {i k : Nat} {w w' : World} (h : DR b1 b2 rb mb v l m i k w) (hb : Below w.heap.size w w') : DR b1 b2 rb mb v l m i k w' := ⟨⟨h.1.1.below hb, h.1.2.below hb⟩, h.2.below hb⟩
theorem Heap.cap2 {b1 b2 rb i k lo hi n : Nat} {H : List Item} {w : World} (hH : Heap H w)
    (hn : H[n]? = some ⟨lo, hi, fun w => ∃ c1 c2 : Nat, (Value.func (.func 99) #[] #[.pointer (some ⟨b1, 0, none⟩), .pointer (some ⟨b2, 0, none⟩)] : Value) = .func (.func 99) #[] #[.pointer (some ⟨c1, 0, none⟩), .pointer (some ⟨c2, 0, none⟩)] ∧ Cap2 c1 c2 rb i k w⟩) :
    Heap (H.set n ⟨lo, hi, Cap2 b1 b2 rb i k⟩) w := hH.weaken hn (φ := Cap2 b1 b2 rb i k) (fun w' h => by
  obtain ⟨c1, c2, e, h⟩ := h
  cases e
  exact h)

theorem it99 {b1 b2 rb mb i k : Nat} {v : Value} {l : List Int} {m : Q.Mm} (hf : Q.Full l m) (hn : l.length ≤ 12) (hw : ∀ x ∈ l, 0 ≤ x ∧ x ≤ 1000) (hik : i ≤ k) (hk : k ≤ l.length) :
    Iter Try.prog 99 [(.pointer (some ⟨b1, 0, none⟩)), (.pointer (some ⟨b2, 0, none⟩))] (DR b1 b2 rb mb v l m i k) (((Q.rootsI l i k).map (Value.int .i64))) := by
  refine iter_of (N := 34) Try.func99 rfl (ent Try.func99 (by kernel_rfl) rfl) rfl rfl rfl (fun yl J Jx hJ hJx hD hY w hH => ?_)
  refine seq (region ?_)
  refine ops_y hH rfl rfl (yv_field T.f81_0 rfl) ?_
  refine ops_y hH rfl rfl (yv_load T.one3 rfl (fun _ hw => bx_cell ((hD _ _ (hw.get (n := 0) rfl)).1.1) rfl)) ?_
  refine ops_y hH rfl rfl (yv_assign rfl) (ops_nil (thn_n (block ?_)))
  refine loop (S := Nat × Nat × World) (fun (j, q, wj) => [(4, (.int .i64 ((i + j : Nat) : Int))), (0, (.func (.yield yl) #[] #[])), (1, (.pointer (some ⟨b1, 0, none⟩))), (2, (.pointer (some ⟨b2, 0, none⟩)))]) (fun (j, q, wj) w1 => Heap [jItem wj (J q)] w1 ∧ j ≤ k - i ∧ q = (Q.rtTo l i k j).length) (fun (j, q, wj) => k - i - j) (0, 0, w) (Sub.cons (congrArg (fun z : Int => some (Value.int .i64 z)) (by omega)) (Sub.cons rfl (Sub.cons rfl (Sub.cons rfl (Sub.nil _))))) ?_ ?_
  · exact ⟨hH, by omega, rfl⟩
  · rintro ⟨j, q, wj⟩ w1 ⟨hH2, hj, hq⟩
    show Holds _ _ _ _ _ [(4, (.int .i64 ((i + j : Nat) : Int))), (0, (.func (.yield yl) #[] #[])), (1, (.pointer (some ⟨b1, 0, none⟩))), (2, (.pointer (some ⟨b2, 0, none⟩)))] _ _
    refine seq (seq (region (ops_y hH2 rfl rfl (yv_move rfl) ?_)))
    refine ops_y hH2 rfl rfl (yv_field T.f81_1 rfl) ?_
    refine ops_y hH2 rfl rfl (yv_load T.one3 rfl (fun _ hw => bx_cell ((hD _ _ (hw.get (n := 0) rfl)).1.1) rfl)) ?_
    refine ops_y hH2 rfl rfl (yv_lss rfl rfl) ?_
    refine ops_nil (thn_n ?_)
    by_cases hc3 : ((i + j : Nat) : Int) < (k : Int)
    · skip
      refine cond_t rfl (decide_eq_true hc3) ?_
      refine skip (thn_n (seq (block (seq ?_))))
      have hq1 : (find ((i : Int), ((i + j : Nat) : Int)) m).getD 0 = Q.C l i (i + j) := hf.get (by omega) (by omega)
      have hq2 : (find (((i + j : Nat) : Int) + 1, (k : Int)) m).getD 0 = Q.C l (i + j + 1) k := hf.get (i := i + j + 1) (k := k) (by omega) (by omega)
      have hq3 : (find ((i : Int), (k : Int)) m).getD 0 = Q.C l i k := hf.get (by omega) (by omega)
      have hcb1 := Q.C_small hw hn (i := i) (k := i + j) (by omega)
      have hcb2 := Q.C_small hw hn (i := i + j + 1) (k := k) (by omega)
      have hpb := Q.P_bd hw (i := i) (k - i) (by omega)
      rw [show i + (k - i) = k by omega] at hpb
      refine region_drawX (fun w' => Heap [jItem wj (J q)] w') [18, 19, 20] T.mixed (fun w4 hr5 => ?_)
      have hH6 := hH2.redrawn hr5
      refine any_takesX [0, 1, 2, 3, 4, 6, 7, 8, 11, 12] (by kernel_rfl) hH6 _ _ _ (by kernel_rfl) ?_
      refine qs_y rfl rfl (yv_load T.one76 rfl (fun _ hw => bx_cell ((hD _ _ (hw.get (n := 0) rfl)).1.2) rfl)) ?_
      refine qs_y rfl rfl (yv_nilck rfl) ?_
      refine qs_y rfl rfl (yv_field T.f87_0 rfl) ?_
      refine qs_y rfl rfl (yv_loadA (cs := [v]) T.agg84 rfl rfl (fun _ hw => bx_cells ((hD _ _ (hw.get (n := 0) rfl)).2.1) (k := 0) rfl)) ?_
      refine qs_y rfl rfl (yv_loadA (cs := [(.int .i64 (i : Int)), (.int .i64 (k : Int))]) T.agg81 rfl rfl (fun _ hw => bx_cells ((hD _ _ (hw.get (n := 0) rfl)).1.1) (k := 0) rfl)) ?_
      refine qs_y rfl rfl (yv_load T.one76 rfl (fun _ hw => bx_cell ((hD _ _ (hw.get (n := 0) rfl)).1.2) rfl)) ?_
      refine qs_y rfl rfl (yv_loadA (cs := [(.int .i64 (i : Int)), (.int .i64 (k : Int))]) T.agg81 rfl rfl (fun _ hw => bx_cells ((hD _ _ (hw.get (n := 0) rfl)).1.1) (k := 0) rfl)) ?_
      refine qs_y rfl rfl (yv_move rfl) ?_
      refine qs_y rfl rfl (yv_load T.one76 rfl (fun _ hw => bx_cell ((hD _ _ (hw.get (n := 0) rfl)).1.2) rfl)) ?_
      refine qs_y rfl rfl (yv_loadA (cs := [(.int .i64 (i : Int)), (.int .i64 (k : Int))]) T.agg81 rfl rfl (fun _ hw => bx_cells ((hD _ _ (hw.get (n := 0) rfl)).1.1) (k := 0) rfl)) ?_
      refine qs_nil ?_
      refine any_allX [5] (by kernel_rfl) rfl ?_
      refine ⟨⟨_, rfl, ?_⟩, trivial⟩
      · skip
        refine op_fnV rfl rfl rfl hH6 (c78 (i := i) (k := k) ((hD _ _ (hH6.get (n := 0) rfl)).2.2.2) hw (by omega) (by omega) (by omega)) (fun w7 hH8 => ?_)
        refine ops_nil ?_
        refine ⟨fun _ => hH8, ?_⟩
        refine any_allX [9] (by kernel_rfl) rfl ?_
        refine ⟨⟨_, rfl, ?_⟩, trivial⟩
        · skip
          have hev11 : Fn Try.prog 100 [(.pointer (some ⟨rb, 0, none⟩)), (.agg #[(.int .i64 (i : Int)), (.int .i64 (k : Int))]), (.int .i64 ((i + j : Nat) : Int))].toArray _ _ := c100 (m := m) (a := (i : Int)) (b := (k : Int)) (c := ((i + j : Nat) : Int)) ((hD _ _ (hH8.get (n := 0) rfl)).2.1) ((hD _ _ (hH8.get (n := 0) rfl)).2.2.1) (by omega) (by omega) (hf.bd hw hn)
          simp only [hq1, hq2] at hev11
          refine op_fnV rfl rfl rfl hH8 (hev11) (fun w9 hH10 => ?_)
          refine ops_nil ?_
          refine ⟨fun _ => hH10, ?_⟩
          refine any_takesX [10] (by kernel_rfl) hH10 _ _ _ (by kernel_rfl) ?_
          refine qs_y rfl rfl (yv_add rfl rfl (by omega)) ?_
          refine qs_nil ?_
          refine any_allX [13] (by kernel_rfl) rfl ?_
          refine ⟨⟨_, rfl, ?_⟩, trivial⟩
          · skip
            have hev14 : Fn Try.prog 65 [(.pointer (some ⟨rb, 0, none⟩)), (.agg #[(.int .i64 (i : Int)), (.int .i64 (k : Int))])].toArray _ _ := c65 (m := m) (a := (i : Int)) (b := (k : Int)) ((hD _ _ (hH10.get (n := 0) rfl)).2.1) ((hD _ _ (hH10.get (n := 0) rfl)).2.2.1)
            simp only [hq3] at hev14
            refine op_fnV rfl rfl rfl hH10 (hev14) (fun w12 hH13 => ?_)
            refine ops_nil ?_
            refine ⟨fun _ => hH13, ?_⟩
            refine any_takesX [14, 15] (by kernel_rfl) hH13 _ _ _ (by kernel_rfl) ?_
            refine qs_y rfl rfl (yv_eql rfl rfl) ?_
            refine qs_y rfl rfl (yv_move rfl) (qs_nil ?_)
            by_cases hc15 : ((Q.P l k - Q.P l i) + (Q.C l i (i + j) + Q.C l (i + j + 1) k)) = (Q.C l i k)
            · skip
              have hpr : Q.K l i k (i + j) = Q.C l i k := ‹_›
              refine any_takesX [16, 17] (by kernel_rfl) hH13 _ _ _ (by kernel_rfl) ?_
              refine qs_yes rfl rfl rfl (decide_eq_true hc15) rfl (yv_move rfl) ?_
              refine qs_yes rfl rfl rfl (decide_eq_true hc15) rfl (yv_move rfl) ?_
              refine qs_nil ?_
              refine any_allX [18] (by kernel_rfl) rfl ?_
              refine ⟨⟨_, rfl, ?_⟩, trivial⟩
              · skip
                refine guard_yes rfl rfl (decide_eq_true hc15) ?_
                refine op_yield rfl rfl rfl (hY q _ (by rw [hq]; exact Q.rootsI_at (by omega) hpr) _ (hH13.get (n := 0) rfl)) (fun w16 hA17 => ?_) (fun w16 hA17 => ?_)
                · skip
                  have hH18 := jItem_heap (J := J (q + 1)) (hJ (q + 1)) hA17
                  refine ops_nil ?_
                  refine ⟨(fun h => by cases h), ?_⟩
                  refine any_allX [19] (by kernel_rfl) rfl ?_
                  refine ⟨⟨_, rfl, ?_⟩, trivial⟩
                  · skip
                    refine guard_yes rfl rfl (decide_eq_true hc15) ?_
                    refine ops_y hH18 rfl rfl (yv_not rfl) ?_
                    refine ops_nil ?_
                    refine ⟨(fun h => by cases h), ?_⟩
                    refine any_allX [20] (by kernel_rfl) rfl ?_
                    refine ⟨⟨_, rfl, ?_⟩, trivial⟩
                    · skip
                      refine ops_y hH18 rfl rfl (yv_pick_t rfl (decide_eq_true hc15) rfl) ?_
                      refine ops_nil ?_
                      refine ⟨(fun h => by cases h), ?_⟩
                      refine any_doneX (by kernel_rfl) ?_
                      refine thn_n ?_
                      refine cond_f rfl rfl ?_
                      refine skip (blk_n (thn_n (region (ops_y hH18 rfl rfl (yv_move rfl) ?_))))
                      refine ops_y hH18 rfl rfl (yv_add rfl rfl (by omega)) ?_
                      refine ops_y hH18 rfl rfl (yv_assign rfl) (ops_nil ?_)
                      refine lp_n (j + 1, q + 1, w16) (Sub.cons (congrArg (fun z : Int => some (Value.int .i64 z)) (by omega)) (Sub.cons rfl (Sub.cons rfl (Sub.cons rfl (Sub.nil _))))) ?_ ?_
                      · exact ⟨hH18, by omega, by rw [Q.rtTo_t hpr, hq]; simp⟩
                      · first | (dsimp only; omega) | (show _ < _; omega)
                · skip
                  have hH18 := jItem_heap (J := Jx) hJx hA17
                  refine ops_nil ?_
                  refine ⟨(fun h => by cases h), ?_⟩
                  refine any_allX [19] (by kernel_rfl) rfl ?_
                  refine ⟨⟨_, rfl, ?_⟩, trivial⟩
                  · skip
                    refine guard_yes rfl rfl (decide_eq_true hc15) ?_
                    refine ops_y hH18 rfl rfl (yv_not rfl) ?_
                    refine ops_nil ?_
                    refine ⟨(fun h => by cases h), ?_⟩
                    refine any_allX [20] (by kernel_rfl) rfl ?_
                    refine ⟨⟨_, rfl, ?_⟩, trivial⟩
                    · skip
                      refine ops_y hH18 rfl rfl (yv_pick_t rfl (decide_eq_true hc15) rfl) ?_
                      refine ops_nil ?_
                      refine ⟨(fun h => by cases h), ?_⟩
                      refine any_doneX (by kernel_rfl) ?_
                      refine thn_n ?_
                      refine cond_t rfl rfl ?_
                      refine ret (blk_r (thn_r (lp_r (blk_r ?_))))
                      exact ⟨rfl, .inr (hH18.get (n := 0) rfl)⟩
            · skip
              have hpn : ¬ Q.K l i k (i + j) = Q.C l i k := ‹_›
              refine any_takesX [16, 17] (by kernel_rfl) hH13 _ _ _ (by kernel_rfl) ?_
              refine qs_no rfl rfl rfl (decide_eq_false hc15) rfl ?_
              refine qs_no rfl rfl rfl (decide_eq_false hc15) rfl ?_
              refine qs_nil ?_
              refine any_allX [18] (by kernel_rfl) rfl ?_
              refine ⟨⟨_, rfl, ?_⟩, trivial⟩
              · skip
                refine guard_no rfl rfl (decide_eq_false hc15) rfl ?_
                refine ops_nil ?_
                refine ⟨(fun h => by cases h), ?_⟩
                refine any_allX [19] (by kernel_rfl) rfl ?_
                refine ⟨⟨_, rfl, ?_⟩, trivial⟩
                · skip
                  refine guard_no rfl rfl (decide_eq_false hc15) rfl ?_
                  refine ops_nil ?_
                  refine ⟨(fun h => by cases h), ?_⟩
                  refine any_allX [20] (by kernel_rfl) rfl ?_
                  refine ⟨⟨_, rfl, ?_⟩, trivial⟩
                  · skip
                    refine ops_y hH13 rfl rfl (yv_pick_f rfl (decide_eq_false hc15) rfl) ?_
                    refine ops_nil ?_
                    refine ⟨(fun h => by cases h), ?_⟩
                    refine any_doneX (by kernel_rfl) ?_
                    refine thn_n ?_
                    refine cond_f rfl rfl ?_
                    refine skip (blk_n (thn_n (region (ops_y hH13 rfl rfl (yv_move rfl) ?_))))
                    refine ops_y hH13 rfl rfl (yv_add rfl rfl (by omega)) ?_
                    refine ops_y hH13 rfl rfl (yv_assign rfl) (ops_nil ?_)
                    refine lp_n (j + 1, q, wj) (Sub.cons (congrArg (fun z : Int => some (Value.int .i64 z)) (by omega)) (Sub.cons rfl (Sub.cons rfl (Sub.cons rfl (Sub.nil _))))) ?_ ?_
                    · exact ⟨hH13, by omega, by rw [Q.rtTo_f hpn]; exact hq⟩
                    · first | (dsimp only; omega) | (show _ < _; omega)
    · skip
      refine cond_f rfl (decide_eq_false hc3) ?_
      refine exit (thn_x (lp_x (blk_here ?_)))
      have hje : j = k - i := by omega
      have hql : q = ((Q.rootsI l i k).map (Value.int .i64)).length := by rw [hq, Q.rtTo_all hje, List.length_map, Q.rootsI_length]
      exact ⟨rfl, .inl (by rw [← hql]; exact hH2.get (n := 0) rfl)⟩

theorem c82 {rb i k : Nat} {w : World}  :
    Fn Try.prog 82 [(.pointer (some ⟨rb, 0, none⟩)), (.agg #[(.int .i64 (i : Int)), (.int .i64 (k : Int))])].toArray w (fun u w => ∃ c1 c2 : Nat, u = .func (.func 99) #[] #[.pointer (some ⟨c1, 0, none⟩), .pointer (some ⟨c2, 0, none⟩)] ∧ Cap2 c1 c2 rb i k w) := by
  refine fn_of' (args := [(.pointer (some ⟨rb, 0, none⟩)), (.agg #[(.int .i64 (i : Int)), (.int .i64 (k : Int))])]) Try.func82 rfl (ent Try.func82 (by kernel_rfl) rfl) rfl rfl (fun hH => ?_)
  refine seq (region ?_)
  refine op_box (us := [(.pointer (some ⟨rb, 0, none⟩))]) rfl rfl rfl hH (fun b1 w2 hH3 => ?_)
  refine op_box (us := [(.int .i64 (i : Int)), (.int .i64 (k : Int))]) rfl rfl rfl hH3 (fun b4 w5 hH6 => ?_)
  refine ops_y hH6 rfl rfl (yv_assign rfl) (ops_nil (thn_n (seq (region ?_))))
  refine ops_y hH6 rfl rfl (yv_func rfl rfl) ?_
  refine ops_y hH6 rfl rfl (yv_assign rfl) (ops_nil (thn_n (ret ?_)))
  refine fin (hH6.front (n := 2) rfl) (fun w' hf => (res1 rfl (show RV _ _ _ (.tmp 4) _ from rfl))) (fun w' hf => ?_)
  refine ⟨_, _, rfl, ?_⟩
  exact ⟨Heap.bxw hf (n := 0) rfl, Heap.bxw hf (n := 1) rfl⟩

theorem c98 {gf : FuncId} {cap : List Value} {D : World → Prop} {l : List Int} {w : World} (hit : Iter Try.prog gf cap D (l.map (Value.int .i64))) (hst : ∀ w', Below w.heap.size w w' → D w') (hn : l.length ≤ 1000)  :
    Fn Try.prog 98 [(.slice none 0 0), (.func (.func gf) #[] cap.toArray)].toArray w (fun u w => Own 3 1 encI u l w) := by
  refine fn_of' (args := [(.slice none 0 0), (.func (.func gf) #[] cap.toArray)]) Try.func98 rfl (ent Try.func98 (by kernel_rfl) rfl) rfl rfl (fun hH => ?_)
  refine seq (region ?_)
  refine op_box (us := [(.slice none 0 0)]) rfl rfl rfl hH (fun b1 w2 hH3 => ?_)
  refine ops_y hH3 rfl rfl (yv_assign rfl) (ops_nil (thn_n (seq (seq (region (ops_y hH3 rfl rfl (yv_move rfl) (ops_nil (thn_n (block ?_)))))))))
  have hH4 := ow_nil (enc := encI) 3 1 hH3
  refine rangeFunc (xs := (l.map (Value.int .i64))) rfl hit rfl hH4 (fun i H => ∃ v_a : Value, ∃ lo_a : Nat, ∃ hi_a : Nat, H = [ow lo_a hi_a 3 1 encI v_a (l.take i), bx b1 22 [v_a], base w] ∧ True) (fun c H => False) ⟨(.slice none 0 0), w2.heap.size, w2.heap.size, rfl, trivial⟩ (fun i H w hI hw => ?_) (fun l5 D6 i7 x8 H w10 rc hx9 hI hH11 => ?_) (fun D6 H w10 hI hH11 => ?_) (fun D6 c H w10 hI hH11 => ?_)
  · skip
    obtain ⟨_, _, _, rfl, _⟩ := hI
    exact hst _ (hw.get (n := 2) rfl)
  · skip
    obtain ⟨v_a, lo_a, hi_a, rfl, _⟩ := hI
    obtain ⟨hlt, hxe⟩ := map_get hx9
    subst hxe
    refine region (ops_y hH11 rfl rfl (yv_assign rfl) (ops_nil ?_))
    refine ⟨_, hH11, fun w14 hH15 => ?_⟩
    refine block (region ?_)
    refine ops_y hH15 rfl rfl (yv_load T.one22 rfl (fun _ hw => Heap.cellw hw (n := 3) rfl rfl)) ?_
    refine ops_y hH15 rfl rfl (yv_move rfl) ?_
    refine op_lit (us := [(0, (.int .i64 (nth l (i7 : Int))))]) T.el22_encI [nth l (i7 : Int)] rfl (by decide) rfl (fun a ha => by simp [ha.ev (show ev _ (.tmp 9) = some _ from rfl)]) (fun w => by kernel_rfl) hH15 (fun u16 lo18 hi19 w17 hH20 => ?_)
    refine op_append (n := 3) T.el22_encI rfl rfl rfl hH20 rfl (Heap.rdw T.el22_encI hH20 (n := 0) rfl) (by rw [List.length_take]; simp only [List.length_cons, List.length_nil]; omega) (fun u21 lo23 hi24 w22 hH25 => ?_)
    refine op_store (n := 4) (j := 0) (us := [u21]) rfl rfl hH25 rfl T.sz22 (SliceIs.cells (Heap.rdw T.el22_encI hH25 (n := 3) rfl).is) rfl rfl (SliceIs.one (Heap.rdw T.el22_encI hH25 (n := 3) rfl).is) (fun w26 hH27 => ?_)
    refine ops_nil (blk_n ?_)
    have hH28 := (hH27.sub (List.Sublist.cons _ (List.Sublist.refl _)))
    exact ⟨_, ⟨_, ⟨u21, lo23, hi24, rfl, trivial⟩, rfl⟩, (Heap.recast (n := 2) hH28 rfl ((take_snoc hlt)))⟩
  · skip
    obtain ⟨v_a, lo_a, hi_a, rfl, _⟩ := hI
    have hH29 := hH11.perm (List.perm_append_comm (l₁ := [_]))
    refine blk_n (thn_n (seq (region ?_)))
    refine ops_y hH29 rfl rfl (yv_load T.one22 rfl (fun _ hw => Heap.cellw hw (n := 1) rfl rfl)) ?_
    refine ops_y hH29 rfl rfl (yv_assign rfl) (ops_nil (thn_n (ret ?_)))
    have hH30 := (hH29.sub (List.Sublist.cons_cons _ (List.Sublist.cons _ (List.Sublist.refl _))))
    refine fin_m (H := [ow lo_a hi_a 3 1 encI v_a (l.take ((l.map (Value.int .i64))).length)]) [D6] (hH30.front (n := 1) rfl) (fun w' hf => (res1 rfl (show RV _ _ _ (.tmp 4) _ from rfl))) (fun w' hf => ?_)
    exact (by have h := Heap.own hf (n := 0) rfl; rw [List.length_map, List.take_length] at h; exact h)
  · skip
    exact hI.elim

theorem c81 {gf : FuncId} {cap : List Value} {D : World → Prop} {l : List Int} {w : World} (hit : Iter Try.prog gf cap D (l.map (Value.int .i64))) (hst : ∀ w', Below w.heap.size w w' → D w') (hn : l.length ≤ 1000)  :
    Fn Try.prog 81 [(.func (.func gf) #[] cap.toArray)].toArray w (fun u w => Own 3 1 encI u l w) := by
  refine fn_of' (args := [(.func (.func gf) #[] cap.toArray)]) Try.func81 rfl (ent Try.func81 (by kernel_rfl) rfl) rfl rfl (fun hH => ?_)
  refine seq (region (ops_y hH rfl rfl (yv_assign rfl) (ops_nil (thn_n (seq (region (ops_y hH rfl rfl (yv_move rfl) ?_)))))))
  refine op_fn rfl rfl rfl hH (c98 hit (fun w' hb => hst w' ((show Below w.heap.size w _ from hH.get (n := 0) rfl).trans (hb.mono (show Below w.heap.size w _ from hH.get (n := 0) rfl).size))) hn) (fun u3 w1 lo4 hi5 hH2 hv6 => ?_)
  have hH7 := Heap.toOw hH2 (n := 0) rfl
  refine ops_y hH7 rfl rfl (yv_assign rfl) (ops_nil (thn_n (ret ?_)))
  refine fin (hH7.front (n := 1) rfl) (fun w' hf => (res1 rfl (show RV _ _ _ (.tmp 2) _ from rfl))) (fun w' hf => ?_)
  exact Heap.own hf (n := 0) rfl

theorem c64g {v : Value} {l : List Int} {w : World} (h0 : Rd encI 1 v l w) (hn : l.length ≤ 1000000) (hc : Q.ckW l = 0)  :
    Fn Try.prog 64 [v].toArray w (fun u w => ∃ rb : Nat, u = .tuple #[.pointer (some ⟨rb, 0, none⟩), .int .i64 0] ∧ RowEx Q.kvS Q.vvI (Q.Full l) 87 rb v w) := by
  refine fn_of' (args := [v]) Try.func64 rfl (ent Try.func64 (by kernel_rfl) rfl) rfl rfl (fun hH => ?_)
  obtain ⟨hl12, hw⟩ := Q.ckW_w hc
  refine seq (region (ops_y hH rfl rfl (yv_assign rfl) (ops_y hH rfl rfl (yv_assign rfl) (ops_nil (thn_n (seq (seq (region (ops_y hH rfl rfl (yv_move rfl) ?_)))))))))
  refine op_fnV rfl rfl rfl hH (c31 (h0.now hH (n := 0) rfl) (by omega)) (fun w1 hH2 => ?_)
  refine ops_y hH2 rfl rfl (yv_assign rfl) (ops_nil (thn_n (seq (region (ops_y hH2 rfl rfl (yv_move rfl) ?_)))))
  refine ops_y hH2 rfl rfl (yv_neq rfl rfl) ?_
  refine ops_nil (thn_n ?_)
  have hc3 : ¬ (¬ ((Q.ckW l) = 0)) := fun h => h hc
  refine cond_f rfl (not_decide_f hc3) ?_
  refine skip (thn_n (seq (region (ops_y hH2 rfl rfl (yv_move rfl) ?_))))
  refine op_fn rfl rfl rfl hH2 (c89 (h0.now hH2 (n := 0) rfl) (by omega) (by omega) hw) (fun u6 w4 lo7 hi8 hH5 hv9 => ?_)
  obtain ⟨rbR, hu, hrowR⟩ := hv9
  subst hu
  obtain ⟨mbR, esR, clockR, mR, hentsR, hfullR, hH10⟩ := Heap.fixMap hH5 (n := 0) rfl (fun w' h => by obtain ⟨rb', e, h⟩ := h; cases e; exact h)
  refine ops_y hH10 rfl rfl (yv_assign rfl) (ops_y hH10 rfl rfl (yv_assign rfl) (ops_nil (thn_n (ret ?_))))
  refine fin (hH10.front (n := 1) rfl) (fun w' hf => (res2 rfl (show RV _ _ _ (.tmp 2) _ from rfl) (show RV _ _ _ (.tmp 3) _ from rfl))) (fun w' hf => ?_)
  have hat : RowAt 87 rbR v mbR esR clockR w' := hf.get (n := 0) rfl
  exact ⟨_, rfl, _, _, hat.1, hentsR.mp hat.2, hfullR⟩

theorem c64b {v : Value} {l : List Int} {w : World} (h0 : Rd encI 1 v l w) (hn : l.length ≤ 1000000) (hc : ¬ Q.ckW l = 0)  :
    Fn Try.prog 64 [v].toArray w (fun u _ => u = .tuple #[.pointer none, .int .i64 (Q.ckW l)]) := by
  refine fn_of' (args := [v]) Try.func64 rfl (ent Try.func64 (by kernel_rfl) rfl) rfl rfl (fun hH => ?_)
  refine seq (region (ops_y hH rfl rfl (yv_assign rfl) (ops_y hH rfl rfl (yv_assign rfl) (ops_nil (thn_n (seq (seq (region (ops_y hH rfl rfl (yv_move rfl) ?_)))))))))
  refine op_fnV rfl rfl rfl hH (c31 (h0.now hH (n := 0) rfl) (by omega)) (fun w1 hH2 => ?_)
  refine ops_y hH2 rfl rfl (yv_assign rfl) (ops_nil (thn_n (seq (region (ops_y hH2 rfl rfl (yv_move rfl) ?_)))))
  refine ops_y hH2 rfl rfl (yv_neq rfl rfl) ?_
  refine ops_nil (thn_n ?_)
  have hc3 : ¬ ((Q.ckW l) = 0) := hc
  refine cond_t rfl (not_decide_t hc3) ?_
  refine seq (region (ops_y hH2 rfl rfl (yv_move rfl) (ops_y hH2 rfl rfl (yv_assign rfl) (ops_y hH2 rfl rfl (yv_assign rfl) (ops_nil (thn_n (ret (thn_r ?_))))))))
  refine fin hH2 (fun w' hf => (res2 rfl (show RV _ _ _ (.tmp 2) _ from rfl) (show RV _ _ _ (.tmp 3) _ from rfl))) (fun w' hf => ?_)
  rfl

theorem c25 {v : Value} {l : List Int} {w : World} (h0 : Rd encI 1 v l w) (hn : l.length ≤ 1000000)  :
    Fn Try.prog 25 [v].toArray w (fun u _ => u = .tuple #[.int .i64 (Q.leastR l).1, .int .i64 (Q.leastR l).2]) := by
  refine fn_of' (args := [v]) Try.func25 rfl (ent Try.func25 (by kernel_rfl) rfl) rfl rfl (fun hH => ?_)
  refine seq (region (ops_y hH rfl rfl (yv_assign rfl) (ops_y hH rfl rfl (yv_assign rfl) (ops_nil (thn_n (seq ?_))))))
  by_cases hc1 : Q.ckW l = 0
  · skip
    have hc0 : Q.ckW l = 0 := ‹_›
    obtain ⟨hl12, hw⟩ := Q.ckW_w hc0
    refine region (ops_y hH rfl rfl (yv_move rfl) ?_)
    refine op_fn rfl rfl rfl hH (c64g (h0.now hH (n := 0) rfl) (by omega) hc0) (fun u4 w2 lo5 hi6 hH3 hv7 => ?_)
    obtain ⟨rbR, hu, hrowR⟩ := hv7
    subst hu
    obtain ⟨mbR, esR, clockR, mR, hentsR, hfullR, hH8⟩ := Heap.fixMap hH3 (n := 0) rfl (fun w' h => by obtain ⟨rb', e, h⟩ := h; cases e; exact h)
    refine ops_y hH8 rfl rfl (yv_move rfl) (ops_y hH8 rfl rfl (yv_extract rfl rfl) (ops_y hH8 rfl rfl (yv_extract rfl rfl) (ops_y hH8 rfl rfl (yv_assign rfl) (ops_y hH8 rfl rfl (yv_assign rfl) (ops_nil (thn_n (seq (seq (region ?_)))))))))
    refine ops_y hH8 rfl rfl (yv_move rfl) ?_
    refine ops_y hH8 rfl rfl (yv_neq rfl rfl) ?_
    refine ops_nil (thn_n ?_)
    refine cond_f rfl rfl ?_
    refine skip (thn_n (seq ?_))
    have hwhole : (find ((0 : Int), (l.length : Int)) mR).getD 0 = Q.C l 0 l.length := hfullR.get (i := 0) (by omega) (by omega)
    refine region (ops_y hH8 rfl rfl (yv_move rfl) (ops_y hH8 rfl rfl (yv_move rfl) ?_))
    refine ops_y hH8 rfl rfl (yv_nilck rfl) ?_
    refine ops_y hH8 rfl rfl (yv_field T.f87_0 rfl) ?_
    refine ops_y hH8 rfl rfl (yv_loadA (cs := [v]) T.agg84 rfl rfl (fun _ hw => bx_cells ((show RowAt 87 rbR v mbR esR clockR _ from hw.get (n := 0) rfl).1) (k := 0) rfl)) ?_
    refine op_fnV rfl rfl rfl hH8 (c66 (h0.now hH8 (n := 1) rfl)) (fun w9 hH10 => ?_)
    have hev13 : Fn Try.prog 65 [(.pointer (some ⟨rbR, 0, none⟩)), (.agg #[(.int .i64 0), (.int .i64 (l.length : Int))])].toArray _ _ := c65 (m := mR) (a := 0) (b := (l.length : Int)) ((show RowAt 87 rbR v mbR esR clockR _ from hH10.get (n := 0) rfl).1) (hentsR.mp (show RowAt 87 rbR v mbR esR clockR _ from hH10.get (n := 0) rfl).2)
    simp only [hwhole] at hev13
    refine op_fnV rfl rfl rfl hH10 (hev13) (fun w11 hH12 => ?_)
    refine ops_y hH12 rfl rfl (yv_assign rfl) (ops_y hH12 rfl rfl (yv_assign rfl) (ops_nil (thn_n (ret ?_))))
    have hH14 := (hH12.sub (List.Sublist.cons _ (List.Sublist.refl _)))
    refine fin hH14 (fun w' hf => (res2 rfl (show RV _ _ _ (.tmp 2) _ from rfl) (show RV _ _ _ (.tmp 3) _ from rfl))) (fun w' hf => ?_)
    first | exact tup2 (Q.le1 hcn) | exact tup2 (Q.le2 hc0)
  · skip
    have hcn : ¬ Q.ckW l = 0 := ‹_›
    refine region (ops_y hH rfl rfl (yv_move rfl) ?_)
    refine op_fnV rfl rfl rfl hH (c64b (h0.now hH (n := 0) rfl) (by omega) hcn) (fun w15 hH16 => ?_)
    refine ops_y hH16 rfl rfl (yv_move rfl) (ops_y hH16 rfl rfl (yv_extract rfl rfl) (ops_y hH16 rfl rfl (yv_extract rfl rfl) (ops_y hH16 rfl rfl (yv_assign rfl) (ops_y hH16 rfl rfl (yv_assign rfl) (ops_nil (thn_n (seq (seq (region ?_)))))))))
    refine ops_y hH16 rfl rfl (yv_move rfl) ?_
    refine ops_y hH16 rfl rfl (yv_neq rfl rfl) ?_
    refine ops_nil (thn_n ?_)
    have hc17 : ¬ ((Q.ckW l) = 0) := hcn
    refine cond_t rfl (not_decide_t hc17) ?_
    refine seq (region (ops_y hH16 rfl rfl (yv_move rfl) (ops_y hH16 rfl rfl (yv_assign rfl) (ops_y hH16 rfl rfl (yv_assign rfl) (ops_nil (thn_n (ret (thn_r ?_))))))))
    refine fin hH16 (fun w' hf => (res2 rfl (show RV _ _ _ (.tmp 2) _ from rfl) (show RV _ _ _ (.tmp 3) _ from rfl))) (fun w' hf => ?_)
    first | exact tup2 (Q.le1 hcn) | exact tup2 (Q.le2 hc0)

theorem c47 {v : Value} {l : List Int} {w : World} (h0 : Rd encI 1 v l w) (hn : l.length ≤ 1000000) {a b : Int}  :
    Fn Try.prog 47 [v, (.int .i64 a), (.int .i64 b)].toArray w (fun u w => ∃ q, u = .tuple #[q, .int .i64 (Q.rootsR l a b).2] ∧ Own 3 1 encI q (Q.rootsR l a b).1 w) := by
  refine fn_of' (args := [v, (.int .i64 a), (.int .i64 b)]) Try.func47 rfl (ent Try.func47 (by kernel_rfl) rfl) rfl rfl (fun hH => ?_)
  refine seq (region (ops_y hH rfl rfl (yv_assign rfl) (ops_y hH rfl rfl (yv_assign rfl) (ops_nil (thn_n (seq ?_))))))
  by_cases hc1 : Q.ckW l = 0
  · skip
    have hc0 : Q.ckW l = 0 := ‹_›
    obtain ⟨hl12, hw⟩ := Q.ckW_w hc0
    refine region (ops_y hH rfl rfl (yv_move rfl) ?_)
    refine op_fn rfl rfl rfl hH (c64g (h0.now hH (n := 0) rfl) (by omega) hc0) (fun u4 w2 lo5 hi6 hH3 hv7 => ?_)
    obtain ⟨rbR, hu, hrowR⟩ := hv7
    subst hu
    obtain ⟨mbR, esR, clockR, mR, hentsR, hfullR, hH8⟩ := Heap.fixMap hH3 (n := 0) rfl (fun w' h => by obtain ⟨rb', e, h⟩ := h; cases e; exact h)
    refine ops_y hH8 rfl rfl (yv_move rfl) (ops_y hH8 rfl rfl (yv_extract rfl rfl) (ops_y hH8 rfl rfl (yv_extract rfl rfl) (ops_y hH8 rfl rfl (yv_assign rfl) (ops_y hH8 rfl rfl (yv_assign rfl) (ops_nil (thn_n (seq (block (seq ?_)))))))))
    refine region (ops_y hH8 rfl rfl (yv_move rfl) ?_)
    refine ops_y hH8 rfl rfl (yv_neq rfl rfl) ?_
    refine ops_y hH8 rfl rfl (yv_assign rfl) (ops_nil (thn_n ?_))
    refine cond_f rfl rfl ?_
    refine seq (region (ops_y hH8 rfl rfl (yv_move rfl) ?_))
    refine ops_y hH8 rfl rfl (yv_nilck rfl) ?_
    refine ops_y hH8 rfl rfl (yv_field T.f87_0 rfl) ?_
    refine ops_y hH8 rfl rfl (yv_field T.f84_0 rfl) ?_
    refine ops_y hH8 rfl rfl (yv_load T.one30 rfl (fun _ hw => bx_cell ((show RowAt 87 rbR v mbR esR clockR _ from hw.get (n := 0) rfl).1) rfl)) ?_
    refine ops_y hH8 rfl rfl (yv_len T.sl30 rfl (h0.now hH8 (n := 1) rfl).is) ?_
    refine ops_y hH8 rfl rfl (yv_sub rfl rfl (by omega)) ?_
    refine ops_y hH8 rfl rfl (yv_move rfl) (ops_y hH8 rfl rfl (yv_move rfl) ?_)
    refine op_lit (us := [(0, (.int .i64 a)), (1, (.int .i64 b))]) T.el30_encI [a, b] rfl (by decide) rfl (fun a ha => by simp [ha.ev (show ev _ (.tmp 27) = some _ from rfl), ha.ev (show ev _ (.tmp 28) = some _ from rfl)]) (fun w => by kernel_rfl) hH8 (fun u9 lo11 hi12 w10 hH13 => ?_)
    refine op_fnV rfl rfl rfl hH13 (c58_2 (Heap.rdw T.el30_encI hH13 (n := 0) rfl)) (fun w14 hH15 => ?_)
    refine ops_y hH15 rfl rfl (yv_not rfl) ?_
    refine ops_y hH15 rfl rfl (yv_move rfl) ?_
    by_cases hc16 : (0 ≤ a ∧ a ≤ (l.length : Int) - 1) ∧ 0 ≤ b ∧ b ≤ (l.length : Int) - 1
    · skip
      refine guard_yes rfl rfl (not_decide_n hc16) ?_
      refine ops_y hH15 rfl rfl (yv_move rfl) ?_
      refine guard_yes rfl rfl (not_decide_n hc16) ?_
      refine ops_y hH15 rfl rfl (yv_move rfl) ?_
      refine guard_yes rfl rfl (not_decide_n hc16) ?_
      refine ops_y hH15 rfl rfl (yv_gtr rfl rfl) ?_
      refine ops_y hH15 rfl rfl (yv_pick_f rfl (not_decide_n hc16) rfl) ?_
      refine ops_y hH15 rfl rfl (yv_assign rfl) (ops_nil (thn_n ?_))
      by_cases hc17 : b < a
      · skip
        refine cond_t rfl (decide_eq_true hc17) ?_
        refine seq (region (ops_y hH15 rfl rfl (yv_assign rfl) (ops_y hH15 rfl rfl (yv_assign rfl) (ops_nil (thn_n (ret (blk_r (thn_r ?_))))))))
        have hH18 := (hH15.sub (List.Sublist.cons _ (List.Sublist.cons _ (List.Sublist.refl _))))
        refine fin hH18 (fun w' hf => (res2 rfl (show RV _ _ _ (.tmp 6) _ from rfl) (show RV _ _ _ (.tmp 7) _ from rfl))) (fun w' hf => ?_)
        first | (rw [Q.ro1 hcn]; exact ⟨_, rfl, own_nil⟩) | (rw [Q.ro2 hc0 (by omega)]; exact ⟨_, rfl, own_nil⟩) | (rw [Q.ro3 hc0 (by omega)]; exact ⟨_, rfl, Heap.own hf (n := 0) rfl⟩)
      · skip
        refine cond_f rfl (decide_eq_false hc17) ?_
        refine skip (blk_n (thn_n (seq (region (ops_y hH15 rfl rfl (yv_move rfl) ?_)))))
        refine ops_y hH15 rfl rfl (yv_cast (show a = (a.toNat : Int) by omega) (yv_move rfl)) ?_
        refine ops_y hH15 rfl rfl (yv_move rfl) ?_
        refine ops_y hH15 rfl rfl (yv_cast (show b + 1 = ((b.toNat + 1 : Nat) : Int) by omega) (yv_add rfl rfl (by omega))) ?_
        refine ops_y hH15 rfl rfl (yv_build (v := (.agg #[(.int .i64 (a.toNat : Int)), (.int .i64 ((b.toNat + 1 : Nat) : Int))])) (us := [(0, (.int .i64 (a.toNat : Int))), (1, (.int .i64 ((b.toNat + 1 : Nat) : Int)))]) (fun a ha => by simp [ha.ev (show ev _ (.tmp 38) = some _ from rfl), ha.ev (show ev _ (.tmp 40) = some _ from rfl)]) (fun w => by kernel_rfl)) ?_
        refine op_fn rfl rfl rfl hH15 (c82 (rb := rbR) (i := a.toNat) (k := (b.toNat + 1))) (fun u23 w21 lo24 hi25 hH22 hv26 => ?_)
        obtain ⟨c19, c20, hu, -⟩ := hv26
        subst hu
        have hH27 := Heap.cap2 (i := a.toNat) (k := (b.toNat + 1)) (rb := rbR) hH22 (n := 0) rfl
        refine op_fn rfl rfl rfl hH27 (c81 (l := (Q.rootsI l a.toNat (b.toNat + 1))) (it99 (b1 := c19) (b2 := c20) (rb := rbR) (v := v) (i := a.toNat) (k := (b.toNat + 1)) hfullR (by omega) hw (by omega) (by omega)) (fun w' hb => DR.below ⟨(show Cap2 c19 c20 rbR a.toNat (b.toNat + 1) _ from hH27.get (n := 0) rfl), ⟨((show RowAt 87 rbR v mbR esR clockR _ from hH27.get (n := 2) rfl).1), (hentsR.mp (show RowAt 87 rbR v mbR esR clockR _ from hH27.get (n := 2) rfl).2), (h0.now hH27 (n := 3) rfl)⟩⟩ hb) (by rw [Q.rootsI_length]; have := Q.roots_length (w := l) (i := a.toNat) (k := (b.toNat + 1)); omega)) (fun u30 w28 lo31 hi32 hH29 hv33 => ?_)
        have hH34 := Heap.toOw hH29 (n := 0) rfl
        refine ops_y hH34 rfl rfl (yv_assign rfl) (ops_y hH34 rfl rfl (yv_assign rfl) (ops_nil (thn_n (ret ?_))))
        have hH35 := (hH34.sub (List.Sublist.cons_cons _ (List.Sublist.cons _ (List.Sublist.cons _ (List.Sublist.cons _ (List.Sublist.refl _))))))
        refine fin (hH35.front (n := 1) rfl) (fun w' hf => (res2 rfl (show RV _ _ _ (.tmp 6) _ from rfl) (show RV _ _ _ (.tmp 7) _ from rfl))) (fun w' hf => ?_)
        first | (rw [Q.ro1 hcn]; exact ⟨_, rfl, own_nil⟩) | (rw [Q.ro2 hc0 (by omega)]; exact ⟨_, rfl, own_nil⟩) | (rw [Q.ro3 hc0 (by omega)]; exact ⟨_, rfl, Heap.own hf (n := 0) rfl⟩)
    · skip
      refine guard_no rfl rfl (not_decide_t hc16) rfl ?_
      refine guard_no rfl rfl (not_decide_t hc16) rfl ?_
      refine guard_no rfl rfl (not_decide_t hc16) rfl ?_
      refine ops_y hH15 rfl rfl (yv_pick_t rfl (not_decide_t hc16) rfl) ?_
      refine ops_y hH15 rfl rfl (yv_assign rfl) (ops_nil (thn_n ?_))
      refine cond_t rfl rfl ?_
      refine seq (region (ops_y hH15 rfl rfl (yv_assign rfl) (ops_y hH15 rfl rfl (yv_assign rfl) (ops_nil (thn_n (ret (blk_r (thn_r ?_))))))))
      have hH36 := (hH15.sub (List.Sublist.cons _ (List.Sublist.cons _ (List.Sublist.refl _))))
      refine fin hH36 (fun w' hf => (res2 rfl (show RV _ _ _ (.tmp 6) _ from rfl) (show RV _ _ _ (.tmp 7) _ from rfl))) (fun w' hf => ?_)
      first | (rw [Q.ro1 hcn]; exact ⟨_, rfl, own_nil⟩) | (rw [Q.ro2 hc0 (by omega)]; exact ⟨_, rfl, own_nil⟩) | (rw [Q.ro3 hc0 (by omega)]; exact ⟨_, rfl, Heap.own hf (n := 0) rfl⟩)
  · skip
    have hcn : ¬ Q.ckW l = 0 := ‹_›
    refine region (ops_y hH rfl rfl (yv_move rfl) ?_)
    refine op_fnV rfl rfl rfl hH (c64b (h0.now hH (n := 0) rfl) (by omega) hcn) (fun w37 hH38 => ?_)
    refine ops_y hH38 rfl rfl (yv_move rfl) (ops_y hH38 rfl rfl (yv_extract rfl rfl) (ops_y hH38 rfl rfl (yv_extract rfl rfl) (ops_y hH38 rfl rfl (yv_assign rfl) (ops_y hH38 rfl rfl (yv_assign rfl) (ops_nil (thn_n (seq (block (seq ?_)))))))))
    refine region (ops_y hH38 rfl rfl (yv_move rfl) ?_)
    refine ops_y hH38 rfl rfl (yv_neq rfl rfl) ?_
    refine ops_y hH38 rfl rfl (yv_assign rfl) (ops_nil (thn_n ?_))
    have hc39 : ¬ ((Q.ckW l) = 0) := hcn
    refine cond_t rfl (not_decide_t hc39) ?_
    refine seq (region (ops_y hH38 rfl rfl (yv_move rfl) (ops_y hH38 rfl rfl (yv_assign rfl) (ops_y hH38 rfl rfl (yv_assign rfl) (ops_nil (thn_n (ret (blk_r (thn_r ?_)))))))))
    refine fin hH38 (fun w' hf => (res2 rfl (show RV _ _ _ (.tmp 6) _ from rfl) (show RV _ _ _ (.tmp 7) _ from rfl))) (fun w' hf => ?_)
    first | (rw [Q.ro1 hcn]; exact ⟨_, rfl, own_nil⟩) | (rw [Q.ro2 hc0 (by omega)]; exact ⟨_, rfl, own_nil⟩) | (rw [Q.ro3 hc0 (by omega)]; exact ⟨_, rfl, Heap.own hf (n := 0) rfl⟩)

end Go.Fip
