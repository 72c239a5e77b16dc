/- Walks, by program (wip/tools). -/
import Derived.Test.YtkhokmfjnjfojaaL13
import Derived.Test.YtkhokmfjnjfojaaML
set_option linter.unusedVariables false
set_option linter.unusedSimpArgs false
set_option linter.unusedSectionVars false
set_option linter.unnecessarySimpa false
namespace Go.Fip
open Go.Proofs Go.RowKit

theorem T.z91_encV : ∀ i, Try.prog.info? 90 = some i → i.zero.map (·.cells.toList) = some (encV nilV) := z_of (z := (.slice none 0 0)) (by kernel_rfl) rfl
theorem T.z90_encSp : ∀ i, Try.prog.info? 89 = some i → i.zero.map (·.cells.toList) = some (encSp z0Sp) := z_of (z := (.agg #[(.int .i64 0), (.slice none 0 0), (.int .i64 0), (.slice none 0 0)])) (by kernel_rfl) rfl
theorem yv_castV {P : Program} {N : Nat} {ds : List Deferred} {env : Env} {op : Op} {a b : Value} {S : World → Prop} (h : a = b) (hy : Yv P N ds env op a S) : Yv P N ds env op b S := h ▸ hy
set_option maxHeartbeats 1000000 in
theorem c67 {v : Value} {l : List Int} {w : World} (h0 : Rd encI 1 v l w) (hn : l.length ≤ 12) (hw : ∀ x ∈ l, 0 ≤ x ∧ x ≤ 1000)  :
    Fn Try.prog 67 [v].toArray w ((fun x w2 => ∃ VV TT, Know x VV TT l.length w2 ∧ Done l TT (l.length + 1) 0 w2)) := by
  refine fn_of' (args := [v]) Try.func67 rfl (ent Try.func67 (by kernel_rfl) rfl) rfl rfl (fun hH => ?_)
  refine seq (region (ops_y hH rfl rfl (yv_assign rfl) (ops_nil (thn_n (seq (region (ops_y hH rfl rfl (yv_move rfl) ?_)))))))
  refine ops_y hH rfl rfl (yv_len T.sl30 rfl (h0.now hH (n := 0) rfl).is) ?_
  refine ops_y hH rfl rfl (yv_assign rfl) (ops_nil (thn_n (seq (region (ops_y hH rfl rfl (yv_move rfl) ?_)))))
  refine ops_y hH rfl rfl (yv_add rfl rfl (by omega)) ?_
  refine op_make T.el91_encV nilV T.z91_encV rfl rfl rfl hH (by omega) (by omega) (fun u1 lo3 hi4 w2 hH5 => ?_)
  refine ops_y hH5 rfl rfl (yv_assign rfl) (ops_nil (thn_n (seq (seq (region (ops_y hH5 rfl rfl (yv_assign rfl) (ops_nil (thn_n (block ?_)))))))))
  refine loop (S := Nat × List RsI × Value × Nat × Nat) (fun (i, Rs, v_4, lo_4, hi_4) => [(5, (.int .i64 (i : Int))), (4, v_4), (0, v), (2, (.slice none 0 0)), (3, (.int .i64 (l.length : Int)))]) (fun (i, Rs, v_4, lo_4, hi_4) w1 => Heap ([ow lo_4 hi_4 90 1 encV v_4 (Rs.map RsI.s ++ List.replicate (l.length + 1 - i) nilV), base w] ++ Rs.map rowSp) w1 ∧ i ≤ l.length + 1 ∧ Rs.length = i ∧ Rs.map RsI.l = (List.range i).map (row0 l.length)) (fun (i, Rs, v_4, lo_4, hi_4) => l.length + 1 - i) (0, [], u1, lo3, hi4) (Sub.cons rfl (Sub.cons rfl (Sub.cons rfl (Sub.cons rfl (Sub.cons rfl (Sub.nil _)))))) ?_ ?_
  · exact ⟨(Heap.recast (n := 0) hH5 rfl ((by rw [show ((l.length : Int) + 1).toNat = l.length + 1 - 0 by omega]; rfl))), by omega, rfl, rfl⟩
  · rintro ⟨i, Rs, v_4, lo_4, hi_4⟩ w6 ⟨hH7, hi, hRl, hR⟩
    show Holds _ _ _ _ _ [(5, (.int .i64 (i : Int))), (4, v_4), (0, v), (2, (.slice none 0 0)), (3, (.int .i64 (l.length : Int)))] _ _
    have hol : (Rs.map RsI.s ++ List.replicate (l.length + 1 - i) nilV).length = l.length + 1 := by simp; omega
    refine seq (seq (region (ops_y hH7 rfl rfl (yv_move rfl) (ops_y hH7 rfl rfl (yv_move rfl) ?_))))
    refine ops_y hH7 rfl rfl (yv_leq rfl rfl) ?_
    refine ops_nil (thn_n ?_)
    by_cases hc8 : (i : Int) ≤ (l.length : Int)
    · skip
      refine cond_t rfl (decide_eq_true hc8) ?_
      refine skip (thn_n (seq (block (seq (region (ops_y hH7 rfl rfl (yv_move rfl) (ops_y hH7 rfl rfl (yv_move rfl) (ops_y hH7 rfl rfl (yv_move rfl) ?_))))))))
      refine ops_y hH7 rfl rfl (yv_add rfl rfl (by omega)) ?_
      refine op_make T.el90_encSp z0Sp T.z90_encSp rfl rfl rfl hH7 (by omega) (by omega) (fun u9 lo11 hi12 w10 hH13 => ?_)
      refine ops_y hH13 rfl rfl (yv_index T.sl91 rfl rfl (Heap.rdw T.el91_encV hH13 (n := 1) rfl).is (by omega)) ?_
      obtain ⟨x9, hx9⟩ := (Heap.rdw T.el90_encSp hH13 (n := 0) rfl).sv
      subst hx9
      refine op_setE (n := 1) (i := (i : Int)) (k := 0) (us := [x9.1]) (z := x9) T.el91_encV rfl rfl hH13 rfl (by omega) T.sz90 (SV.cells x9) rfl rfl (Nat.le_of_ble_eq_true rfl) (fun w14 hH15 => ?_)
      refine ops_nil (thn_n ?_)
      have hol2 : ((Rs.map RsI.s ++ List.replicate (l.length + 1 - i) nilV).set (i : Int).toNat x9).length = l.length + 1 := by rw [List.length_set]; exact hol
      have hrl9 : (List.replicate ((l.length : Int) + 1).toNat z0Sp).length = l.length + 1 := by simp
      refine region (ops_y hH15 rfl rfl (yv_move rfl) (ops_y hH15 rfl rfl (yv_move rfl) ?_))
      refine ops_y hH15 rfl rfl (yv_index T.sl91 rfl rfl (Heap.rdw T.el91_encV hH15 (n := 1) rfl).is (by omega)) ?_
      refine ops_y hH15 rfl rfl (yv_castV (congrArg (fun x : SV => x.1) (nth_set_self (by omega))) (yv_load T.one90 rfl (fun _ hw => Rd.at (Heap.rdw T.el91_encV hw (n := 1) rfl) (i := (i : Int)) (by rw [List.length_set]; omega) (j := 0) rfl))) ?_
      refine ops_y hH15 rfl rfl (yv_move rfl) ?_
      refine ops_y hH15 rfl rfl (yv_index T.sl90 rfl rfl (Heap.rdw T.el90_encSp hH15 (n := 0) rfl).is (by omega)) ?_
      refine ops_y hH15 rfl rfl (yv_field T.f89_2 rfl) ?_
      refine op_setE (n := 0) (i := (i : Int)) (k := 2) (us := [(.int .i64 1)]) (z := (⟨(nth (List.replicate ((l.length : Int) + 1).toNat z0Sp) (i : Int)).c, (nth (List.replicate ((l.length : Int) + 1).toNat z0Sp) (i : Int)).f, 1, (nth (List.replicate ((l.length : Int) + 1).toNat z0Sp) (i : Int)).r⟩ : Sp)) T.el90_encSp rfl rfl hH15 rfl (by omega) T.sz2 rfl rfl rfl (Nat.le_of_ble_eq_true rfl) (fun w16 hH17 => ?_)
      refine ops_nil (blk_n (thn_n (region (ops_y hH17 rfl rfl (yv_move rfl) ?_))))
      refine ops_y hH17 rfl rfl (yv_add rfl rfl (by omega)) ?_
      refine ops_y hH17 rfl rfl (yv_assign rfl) (ops_nil ?_)
      have hH18 := Heap.recast (n := 0) hH17 rfl (row0_of (n := l.length) (i := i) rfl (by omega))
      have hH19 := Heap.totailSp (L := [ow lo_4 hi_4 90 1 encV v_4 ((Rs.map RsI.s ++ List.replicate (l.length + 1 - i) nilV).set (i : Int).toNat x9), base w]) (Rs := Rs) hH18
      refine lp_n (i + 1, (Rs ++ [RsI.mk lo11 hi12 x9 (row0 l.length i)]), v_4, lo_4, hi_4) (Sub.cons rfl (Sub.cons rfl (Sub.cons rfl (Sub.cons rfl (Sub.cons rfl (Sub.nil _)))))) ?_ ?_
      · exact ⟨(Heap.recast (n := 0) hH19 rfl ((out_set (r := RsI.mk _ _ x9 _) hRl (by omega)))), by omega, (by rw [List.length_append, hRl]; rfl), (by rw [List.map_append, hR, List.range_succ, List.map_append]; rfl)⟩
      · first | (dsimp only; omega) | (show _ < _; omega)
    · skip
      refine cond_f rfl (decide_eq_false hc8) ?_
      refine exit (thn_x (lp_x (blk_here (thn_n (seq (seq ?_))))))
      have hie : i = l.length + 1 := by omega
      have hH20 : Heap ([ow lo_4 hi_4 90 1 encV v_4 (Rs.map RsI.s ++ List.replicate (l.length + 1 - i) nilV), base w] ++ Rs.map rowSp) w6 := hH7
      have hH21 := Heap.recast (n := 0) hH20 rfl (show _ = (Rs.map RsI.s) by rw [hie, Nat.sub_self]; simp)
      obtain ⟨b, hbe⟩ : ∃ b, b = w6.heap.size := ⟨_, rfl⟩
      have hRb := Heap.hiAll hH20
      have hob : hi_4 ≤ w6.heap.size := (hH20.okAt (n := 0) rfl).2.1
      have hbb : w.heap.size ≤ w6.heap.size := (hH20.okAt (n := 1) rfl).2.1
      rw [← hbe] at hRb hob hbb
      have hlT : ∀ i : Nat, i ≤ l.length → (nth (Rs.map RsI.l) (i : Int)).length = l.length + 1 := fun j hj => by rw [hR, nth_nat (by simp; omega)]; simp [row0_length]
      have hH22 := Heap.add hH21 (Below.refl _ _) (i := ⟨b, b, Done l (Rs.map RsI.l) 1 0⟩) (Nat.le_of_eq hbe.symm) ⟨Nat.le_refl _, Nat.le_of_eq hbe, fun w' _ => done0 (by rw [hR, hie])⟩
      refine region (ops_y hH22 rfl rfl (yv_assign rfl) (ops_nil (thn_n (block ?_))))
      refine loop (S := Nat × Nat × List RsI × Value × Nat × Nat) (fun (wd, hh, Rs, v_4, lo_4, hi_4) => [(6, (.int .i64 (wd : Int))), (4, v_4), (0, v), (2, (.slice none 0 0)), (3, (.int .i64 (l.length : Int)))]) (fun (wd, hh, Rs, v_4, lo_4, hi_4) w1 => Heap ([⟨b, hh, Done l (Rs.map RsI.l) wd 0⟩, ow lo_4 hi_4 90 1 encV v_4 (Rs.map RsI.s), base w] ++ Rs.map rowSp) w1 ∧ 1 ≤ wd ∧ wd ≤ l.length + 1 ∧ Rs.length = l.length + 1 ∧ (∀ i : Nat, i ≤ l.length → (nth (Rs.map RsI.l) (i : Int)).length = l.length + 1) ∧ (∀ r ∈ Rs, r.hi ≤ b) ∧ hi_4 ≤ b) (fun (wd, hh, Rs, v_4, lo_4, hi_4) => l.length + 1 - wd) (1, b, Rs, v_4, lo_4, hi_4) (Sub.cons rfl (Sub.cons rfl (Sub.cons rfl (Sub.cons rfl (Sub.cons rfl (Sub.nil _)))))) ?_ ?_
      · exact ⟨(Heap.recast (n := 1) hH22 rfl (rfl)), by omega, by omega, by omega, hlT, hRb, hob⟩
      · rintro ⟨wd, hh, Rs, v_4, lo_4, hi_4⟩ w23 ⟨hH24, hwd, hwd2, hRl, hlT, hRb, hob⟩
        show Holds _ _ _ _ _ [(6, (.int .i64 (wd : Int))), (4, v_4), (0, v), (2, (.slice none 0 0)), (3, (.int .i64 (l.length : Int)))] _ _
        refine seq (seq (region (ops_y hH24 rfl rfl (yv_move rfl) (ops_y hH24 rfl rfl (yv_move rfl) ?_))))
        refine ops_y hH24 rfl rfl (yv_leq rfl rfl) ?_
        refine ops_nil (thn_n ?_)
        by_cases hc25 : (wd : Int) ≤ (l.length : Int)
        · skip
          refine cond_t rfl (decide_eq_true hc25) ?_
          refine skip (thn_n (seq (block (seq (region (ops_y hH24 rfl rfl (yv_assign rfl) (ops_nil (thn_n (block ?_)))))))))
          refine loop (S := Nat × Nat × List RsI × Value × Nat × Nat) (fun (i, hh, Rs, v_4, lo_4, hi_4) => [(7, (.int .i64 (i : Int))), (4, v_4), (0, v), (2, (.slice none 0 0)), (3, (.int .i64 (l.length : Int))), (6, (.int .i64 (wd : Int)))]) (fun (i, hh, Rs, v_4, lo_4, hi_4) w1 => Heap ([⟨b, hh, Done l (Rs.map RsI.l) wd i⟩, ow lo_4 hi_4 90 1 encV v_4 (Rs.map RsI.s), base w] ++ Rs.map rowSp) w1 ∧ i + wd ≤ l.length + 1 ∧ Rs.length = l.length + 1 ∧ (∀ i : Nat, i ≤ l.length → (nth (Rs.map RsI.l) (i : Int)).length = l.length + 1) ∧ (∀ r ∈ Rs, r.hi ≤ b) ∧ hi_4 ≤ b) (fun (i, hh, Rs, v_4, lo_4, hi_4) => l.length + 1 - i - wd) (0, hh, Rs, v_4, lo_4, hi_4) (Sub.cons rfl (Sub.cons rfl (Sub.cons rfl (Sub.cons rfl (Sub.cons rfl (Sub.cons rfl (Sub.nil _))))))) ?_ ?_
          · exact ⟨(Heap.recast (n := 1) hH24 rfl (rfl)), by omega, hRl, hlT, hRb, hob⟩
          · rintro ⟨i, hh, Rs, v_4, lo_4, hi_4⟩ w26 ⟨hH27, hi, hRl, hlT, hRb, hob⟩
            show Holds _ _ _ _ _ [(7, (.int .i64 (i : Int))), (4, v_4), (0, v), (2, (.slice none 0 0)), (3, (.int .i64 (l.length : Int))), (6, (.int .i64 (wd : Int)))] _ _
            refine seq (seq (region (ops_y hH27 rfl rfl (yv_move rfl) (ops_y hH27 rfl rfl (yv_move rfl) ?_))))
            refine ops_y hH27 rfl rfl (yv_add rfl rfl (by omega)) ?_
            refine ops_y hH27 rfl rfl (yv_move rfl) ?_
            refine ops_y hH27 rfl rfl (yv_leq rfl rfl) ?_
            refine ops_nil (thn_n ?_)
            by_cases hc28 : ((i : Int) + (wd : Int)) ≤ (l.length : Int)
            · skip
              refine cond_t rfl (decide_eq_true hc28) ?_
              refine skip (thn_n (seq (block ?_)))
              have hrl := hlT i (by omega)
              have hsl : (Rs.map RsI.s).length = l.length + 1 := by rw [List.length_map]; exact hRl
              refine region_drawY (fun w' => Heap ([⟨b, hh, Done l (Rs.map RsI.l) wd i⟩, ow lo_4 hi_4 90 1 encV v_4 (Rs.map RsI.s), base w] ++ Rs.map rowSp) w') [15] T.mixed (fun w29 hr30 => ?_)
              have hH31 := hH27.redrawn hr30
              refine any_takesT [0, 1, 2, 4, 5, 6, 7, 8, 9, 10, 11, 12] (by kernel_rfl)  _ _ _ (by kernel_rfl) ?_
              refine qs_y rfl rfl (yv_move rfl) (qs_y rfl rfl (yv_move rfl) ?_)
              refine qs_y rfl rfl (yv_index T.sl91 rfl rfl (Heap.rdw T.el91_encV hH31 (n := 1) rfl).is (by omega)) ?_
              refine qs_y rfl rfl (yv_move rfl) (qs_y rfl rfl (yv_move rfl) ?_)
              refine qs_y rfl rfl (yv_cast (show _ = ((i + wd : Nat) : Int) by omega) (yv_add rfl rfl (by omega))) ?_
              refine qs_y rfl rfl (yv_move rfl) (qs_y rfl rfl (yv_move rfl) (qs_y rfl rfl (yv_move rfl) (qs_y rfl rfl (yv_move rfl) (qs_y rfl rfl (yv_move rfl) ?_))))
              refine qs_y rfl rfl (yv_cast (show _ = ((i + wd : Nat) : Int) by omega) (yv_add rfl rfl (by omega))) ?_
              refine qs_nil ?_
              refine any_takesY [3] (by kernel_rfl) hH31 _ _ _ (by kernel_rfl) ?_
              refine qs_y rfl rfl (yv_load T.one90 rfl (fun _ hw => Rd.at (Heap.rdw T.el91_encV hw (n := 1) rfl) (i := (i : Int)) (by omega) (j := 0) rfl)) ?_
              refine qs_nil ?_
              refine any_allY [13] (by kernel_rfl) rfl ?_
              refine ⟨⟨_, rfl, ?_⟩, trivial⟩
              · skip
                have hK := Know.tail (L := _) T.el91_encV T.el90_encSp (N := l.length) hH31 (n := 1) rfl (by omega) (fun i hi => hlT i (by omega))
                have hD : Done l (Rs.map RsI.l) wd i w29 := hH31.get (n := 0) rfl
                have hfo : b ≤ hh ∧ hh ≤ w29.heap.size := ⟨(hH31.okAt (n := 0) rfl).1, (hH31.okAt (n := 0) rfl).2.1⟩
                refine op_fn2 rfl rfl rfl hH31 (c90 (i := i) (k := i + wd) (h0.now hH31 (n := 2) rfl) hK (by omega) (by omega) hn hw (fun r h1 h2 => ⟨hD i r (by omega) (by omega) (.inl (by omega)), hD (r + 1) (i + wd) (by omega) (by omega) (.inl (by omega))⟩)) (fun u32 w33 lo34 hi35 hlo36 hH37 hv38 => ?_)
                obtain ⟨f9, r9, rl9, rfl, hf9, hr9⟩ := hv38
                obtain ⟨fs, rfl⟩ := (Own.rd (enc := encI) (fun _ => rfl) hf9).sv
                obtain ⟨rs, rfl⟩ := (Own.rd (enc := encI) (fun _ => rfl) hr9).sv
                have hbl : b ≤ lo34 := by omega
                have hH39 := (show Heap ([_, ⟨b, hh, Done l (Rs.map RsI.l) wd i⟩, ow lo_4 hi_4 90 1 encV v_4 (Rs.map RsI.s), base w] ++ Rs.map rowSp) w33 from hH37)
                refine ops_nil ?_
                refine ⟨fun _ _ => (hH39.sub (List.Sublist.cons _ (List.Sublist.refl _))), ?_⟩
                refine any_takesT [14] (by kernel_rfl)  _ _ _ (by kernel_rfl) ?_
                refine qs_y rfl rfl (yv_index T.sl90 rfl rfl (rowSp_rd (L := _) T.el90_encSp hH39 (i := (i : Int)) (by omega) (by rw [List.length_map]; omega)).is (by omega)) ?_
                refine qs_nil ?_
                refine any_allY [15] (by kernel_rfl) rfl ?_
                refine ⟨⟨_, rfl, ?_⟩, trivial⟩
                · skip
                  refine op_setT (L := [_, _, _, _]) (Rs := Rs) (i := i) (q := ((i + wd : Nat) : Int)) (z := (⟨Q.C l i (i + wd), fs, (Q.M l i (i + wd) : Int), rs⟩ : Sp)) T.el90_encSp (by omega) rfl rfl hH39 (by rw [hlT i (by omega)]; omega) T.sz89 rfl (fun w40 hH41 => ?_)
                  have hH42 := Heap.joinFr (χ := Done l ((setR Rs i ((i + wd : Nat) : Int).toNat (⟨Q.C l i (i + wd), fs, (Q.M l i (i + wd) : Int), rs⟩ : Sp)).map RsI.l) wd (i + 1)) hH41 hbl hob hbb (rowSp_hi (setR_hi hRb)) (fun w' k1 k2 => by rw [setR_l (by omega)]; obtain ⟨f8, r8, rl8, e8, k3, k4⟩ := k1; cases e8; exact Done.step k2 (by rw [List.length_map]; omega) (by omega) hlT ⟨rfl, rfl, Own.rd (fun _ => rfl) k3⟩)
                  refine ops_nil ?_
                  refine ⟨(fun h => by cases h), ?_⟩
                  refine any_doneY (by kernel_rfl) ?_
                  refine blk_n (thn_n (region (ops_y hH42 rfl rfl (yv_move rfl) ?_)))
                  refine ops_y hH42 rfl rfl (yv_add rfl rfl (by omega)) ?_
                  refine ops_y hH42 rfl rfl (yv_assign rfl) (ops_nil ?_)
                  refine lp_n (i + 1, w40.heap.size, (setR Rs i ((i + wd : Nat) : Int).toNat (⟨Q.C l i (i + wd), fs, (Q.M l i (i + wd) : Int), rs⟩ : Sp)), v_4, lo_4, hi_4) (Sub.cons rfl (Sub.cons rfl (Sub.cons rfl (Sub.cons rfl (Sub.cons rfl (Sub.cons rfl (Sub.nil _))))))) ?_ ?_
                  · exact ⟨(Heap.recast (n := 1) hH42 rfl (setR_s.symm)), by omega, by rw [setR_length]; exact hRl, (fun j hj => by rw [setR_l (by omega), nth_setT (by rw [List.length_map]; omega) (by rw [List.length_map]; omega)]; split; (rw [List.length_set]; exact hlT i (by omega)); exact hlT j hj), setR_hi hRb, hob⟩
                  · first | (dsimp only; omega) | (show _ < _; omega)
            · skip
              refine cond_f rfl (decide_eq_false hc28) ?_
              refine exit (thn_x (lp_x (blk_here (blk_n (thn_n (region (ops_y hH27 rfl rfl (yv_move rfl) ?_)))))))
              refine ops_y hH27 rfl rfl (yv_add rfl rfl (by omega)) ?_
              refine ops_y hH27 rfl rfl (yv_assign rfl) (ops_nil ?_)
              refine lp_n (wd + 1, hh, Rs, v_4, lo_4, hi_4) (Sub.cons rfl (Sub.cons rfl (Sub.cons rfl (Sub.cons rfl (Sub.cons rfl (Sub.nil _)))))) ?_ ?_
              · exact ⟨(Heap.weaken (n := 0) (Heap.recast (n := 1) hH27 rfl (rfl)) rfl (fun w' h => Done.next h (by omega))), by omega, by omega, hRl, hlT, hRb, hob⟩
              · first | (dsimp only; omega) | (show _ < _; omega)
        · skip
          refine cond_f rfl (decide_eq_false hc25) ?_
          refine exit (thn_x (lp_x (blk_here (thn_n (seq (region (ops_y hH24 rfl rfl (yv_move rfl) (ops_y hH24 rfl rfl (yv_assign rfl) (ops_nil ?_)))))))))
          refine thn_n (ret ?_)
          refine fin (hH24.front (n := 2) rfl) (fun w' hf => (res1 rfl (show RV _ _ _ (.tmp 2) _ from rfl))) (fun w' hf => ?_)
          have hwe : wd = l.length + 1 := by omega
          subst hwe
          exact ⟨_, _, Know.tail (L := [_, _]) T.el91_encV T.el90_encSp hf (n := 1) rfl (by omega) (fun i hi => hlT i (by omega)), hf.get (n := 0) rfl⟩

end Go.Fip
