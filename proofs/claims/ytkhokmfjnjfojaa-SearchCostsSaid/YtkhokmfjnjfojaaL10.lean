/- Walks, by program (wip/tools). -/
import Derived.Test.YtkhokmfjnjfojaaMG
import Derived.Test.YtkhokmfjnjfojaaMK
set_option linter.unusedVariables false
set_option linter.unusedSimpArgs false
set_option linter.unusedSectionVars false
set_option linter.unnecessarySimpa false
namespace Go.Fip
open Go.Proofs Go.RowKit

theorem T.el121_encV : El Try.prog 121 100 1 encV := el_of (z := (.slice none 0 0)) (bytes := 24) (by kernel_rfl) (by kernel_rfl) rfl rfl rfl (fun _ => rfl) (by intro x; simp [encV, SV.one])
theorem c97r {m : Nat} {u : Value} {VV : List SV} {RR : List (List Int)} {w : World} (ha : RowsV u VV RR w) (hn : RR.length ≤ 1430) (hm : ∀ x ∈ RR, x.length = m) (hm2 : m ≤ 1000) (ih : ∀ {u1 : Value} {VV1 : List SV} {RR1 : List (List Int)} {w1 : World}, RR1.length < RR.length → RowsV u1 VV1 RR1 w1 → (∀ x ∈ RR1, x.length = m) → Fn Try.prog 97 #[u1] w1 (fun x w2 => Below w1.heap.size w1 w2 → ∃ VV2 RR2, RowsV x VV2 RR2 w2 ∧ RR2.Perm RR1 ∧ Q.Srt RR2))  :
    Fn Try.prog 97 [u].toArray w ((fun x w2 => Below w.heap.size w w2 → ∃ VV2 RR2, RowsV x VV2 RR2 w2 ∧ RR2.Perm RR ∧ Q.Srt RR2)) := by
  refine fn_of' (args := [u]) Try.func97 rfl (ent Try.func97 (by kernel_rfl) rfl) rfl rfl (fun hH => ?_)
  have hal0 := ha.2.1
  refine seq (region (ops_y hH rfl rfl (yv_assign rfl) (ops_nil (thn_n (seq (seq (region (ops_y hH rfl rfl (yv_move rfl) ?_))))))))
  refine ops_y hH rfl rfl (yv_len T.sl100 rfl ((ha.now hH (n := 0) rfl).1).is) ?_
  refine ops_y hH rfl rfl (yv_lss rfl rfl) ?_
  refine ops_nil (thn_n ?_)
  by_cases hc1 : (VV.length : Int) < 2
  · skip
    refine cond_t rfl (decide_eq_true hc1) ?_
    refine seq (region (ops_y hH rfl rfl (yv_move rfl) (ops_y hH rfl rfl (yv_assign rfl) (ops_nil (thn_n (ret (thn_r ?_)))))))
    refine finA (Below.refl _ _) hH (fun w' hf => (res1 rfl (show RV _ _ _ (.tmp 2) _ from rfl))) (fun w' hf => ?_)
    first | exact ⟨VV, RR, ha.now hf (n := 0) rfl, List.Perm.refl _, Q.short_srt (by omega)⟩ | (have hie : i = RA.length := (by omega); have hke : k = RB.length := (by omega); rw [hie, hke] at hMG; exact ⟨OV, OR, RowsV.of_own T.el100_encV hf (n := 1) rfl hPt, List.take_append_drop (q : Int).toNat RR ▸ hMG.done.trans (hAp.append hBp), hMG.srt⟩)
  · skip
    refine cond_f rfl (decide_eq_false hc1) ?_
    refine skip (thn_n (seq ?_))
    obtain ⟨q, hq⟩ : ∃ q : Nat, q = VV.length / 2 := ⟨_, rfl⟩
    have hal := ha.2.1
    have haL := ha.take (m := (q : Int).toNat) (by omega)
    have haR := ha.drop (m := (q : Int).toNat) (by omega)
    refine region_draw (fun w' => Heap [base w] w') T.mixed (fun w2 hr3 => ?_)
    have hH4 := hH.redrawn hr3
    refine any_takes [0, 1, 2, 3, 4, 6, 7, 8, 9, 10] (by kernel_rfl) hH4 _ _ _ (by kernel_rfl) ?_
    refine qs_y rfl rfl (yv_move rfl) (qs_y rfl rfl (yv_move rfl) ?_)
    refine qs_y rfl rfl (yv_len T.sl100 rfl ((ha.now hH4 (n := 0) rfl).1).is) ?_
    refine qs_y rfl rfl (yv_cast (show _ = (q : Int) by omega) (yv_quo rfl rfl (by omega) (by omega) (by omega))) ?_
    refine qs_y rfl rfl (yv_cut_hi T.sl100 rfl rfl ((ha.now hH4 (n := 0) rfl).1).is (by omega)) ?_
    refine qs_y rfl rfl (yv_move rfl) (qs_y rfl rfl (yv_move rfl) ?_)
    refine qs_y rfl rfl (yv_len T.sl100 rfl ((ha.now hH4 (n := 0) rfl).1).is) ?_
    refine qs_y rfl rfl (yv_cast (show _ = (q : Int) by omega) (yv_quo rfl rfl (by omega) (by omega) (by omega))) ?_
    refine qs_y rfl rfl (yv_cut_lo T.sl100 rfl rfl ((ha.now hH4 (n := 0) rfl).1).is (by omega)) ?_
    refine qs_nil ?_
    refine any_all [5] (by kernel_rfl) rfl ?_
    refine ⟨⟨_, rfl, ?_⟩, trivial⟩
    · skip
      have hb5 : Below w.heap.size w w2 := hH4.get (n := 0) rfl
      have rv6 := haL.below hb5
      have rv7 := haR.below hb5
      have hH8 := Heap.start w2
      refine op_fn rfl rfl rfl hH8 (ih (RR1 := (RR.take (q : Int).toNat)) (by rw [List.length_take]; omega) rv6 (fun x hx => hm x (List.mem_of_mem_take hx))) (fun u11 w9 lo12 hi13 hH10 hv14 => ?_)
      have hb15 : Below w2.heap.size w2 w9 := hH10.get (n := 1) rfl
      obtain ⟨VA, RA, hA, hAp, hAs⟩ := hv14 hb15
      have hb16 : Below w2.heap.size w2 w9 := hH10.get (n := 1) rfl
      have rv17 := rv6.below hb16
      have rv18 := rv7.below hb16
      have hb19 := below_trans hb5 hb16
      have hH20 := Heap.start w9
      refine ops_nil ?_
      refine ⟨(Heap.unbase hH20 hb19), ?_⟩
      refine any_all [11] (by kernel_rfl) rfl ?_
      refine ⟨⟨_, rfl, ?_⟩, trivial⟩
      · skip
        refine op_fn rfl rfl rfl hH20 (ih (RR1 := (RR.drop (q : Int).toNat)) (by rw [List.length_drop]; omega) rv18 (fun x hx => hm x (List.mem_of_mem_drop hx))) (fun u23 w21 lo24 hi25 hH22 hv26 => ?_)
        have hb27 : Below w9.heap.size w9 w21 := hH22.get (n := 1) rfl
        obtain ⟨VB, RB, hB, hBp, hBs⟩ := hv26 hb27
        have hb28 : Below w9.heap.size w9 w21 := hH22.get (n := 1) rfl
        have rv29 := rv17.below hb28
        have rv30 := rv18.below hb28
        have rv31 := hA.below hb28
        have hb32 := below_trans hb19 hb28
        have hH33 := Heap.start w21
        refine ops_nil ?_
        refine ⟨(Heap.unbase hH33 hb32), ?_⟩
        refine any_takes [12, 13] (by kernel_rfl) (Heap.unbase hH33 hb32) _ _ _ (by kernel_rfl) ?_
        refine qs_y rfl rfl (yv_assign rfl) (qs_y rfl rfl (yv_assign rfl) (qs_nil ?_))
        refine any_done (by kernel_rfl) ?_
        refine thn_n (seq ?_)
        have hAl := hA.2.1
        have hBl := hB.2.1
        have hApl := hAp.length_eq
        have hBpl := hBp.length_eq
        rw [List.length_take] at hApl
        rw [List.length_drop] at hBpl
        have hmA : ∀ i : Nat, i < RA.length → (nth RA (i : Int)).length = m := fun i hi => by rw [nth_nat hi]; exact hm _ (List.mem_of_mem_take (hAp.mem_iff.1 (List.getElem_mem hi)))
        have hmB : ∀ i : Nat, i < RB.length → (nth RB (i : Int)).length = m := fun i hi => by rw [nth_nat hi]; exact hm _ (List.mem_of_mem_drop (hBp.mem_iff.1 (List.getElem_mem hi)))
        refine region (ops_y hH33 rfl rfl (yv_assign rfl) (ops_nil (thn_n (seq (region (ops_y hH33 rfl rfl (yv_assign rfl) (ops_y hH33 rfl rfl (yv_assign rfl) (ops_nil (thn_n ?_)))))))))
        refine seq (block ?_)
        have hH34 := ow_nil (enc := encV) 22 1 hH33
        refine loop (S := Nat × Nat × List SV × List (List Int) × Value × Nat × Nat) (fun (i, k, OV, OR, v_5, lo_5, hi_5) => [(6, (.int .i64 (i : Int))), (7, (.int .i64 (k : Int))), (5, v_5), (2, (.slice none 0 0)), (3, u11), (4, u23)]) (fun (i, k, OV, OR, v_5, lo_5, hi_5) w1 => Heap [ow lo_5 hi_5 22 1 encV v_5 OV, base w21] w1 ∧ i ≤ RA.length ∧ k ≤ RB.length ∧ Q.MG RA RB i k OR ∧ PtV OV OR w21) (fun (i, k, OV, OR, v_5, lo_5, hi_5) => VA.length - i + (VB.length - k)) (0, 0, [], [], (.slice none 0 0), w21.heap.size, w21.heap.size) (Sub.cons rfl (Sub.cons rfl (Sub.cons rfl (Sub.cons rfl (Sub.cons rfl (Sub.cons rfl (Sub.nil _))))))) ?_ ?_
        · exact ⟨(Heap.recast (n := 0) hH34 rfl (rfl)), by omega, by omega, Q.MG.start, PtV.nil⟩
        · rintro ⟨i, k, OV, OR, v_5, lo_5, hi_5⟩ w35 ⟨hH36, hi, hk, hMG, hPt⟩
          show Holds _ _ _ _ _ [(6, (.int .i64 (i : Int))), (7, (.int .i64 (k : Int))), (5, v_5), (2, (.slice none 0 0)), (3, u11), (4, u23)] _ _
          have hOl := hMG.length (by omega) (by omega)
          have hOl2 := hPt.1
          have hma := hmA i
          have hmb := hmB k
          refine seq (seq (region (ops_y hH36 rfl rfl (yv_move rfl) (ops_y hH36 rfl rfl (yv_move rfl) ?_))))
          refine ops_y hH36 rfl rfl (yv_len T.sl100 rfl ((rv31.now hH36 (n := 1) rfl).1).is) ?_
          refine ops_y hH36 rfl rfl (yv_lss rfl rfl) ?_
          refine ops_y hH36 rfl rfl (yv_move rfl) ?_
          by_cases hc37 : (i : Int) < (VA.length : Int)
          · skip
            refine guard_no rfl rfl (decide_eq_true hc37) rfl ?_
            refine guard_no rfl rfl (decide_eq_true hc37) rfl ?_
            refine guard_no rfl rfl (decide_eq_true hc37) rfl ?_
            refine guard_no rfl rfl (decide_eq_true hc37) rfl ?_
            refine ops_y hH36 rfl rfl (yv_pick_t rfl (decide_eq_true hc37) rfl) ?_
            refine ops_nil (thn_n ?_)
            refine cond_t rfl rfl ?_
            refine skip (thn_n (block (seq ?_)))
            refine region_draw (fun w' => Heap [ow lo_5 hi_5 22 1 encV v_5 OV, base w21] w') T.mixed (fun w38 hr39 => ?_)
            have hH40 := hH36.redrawn hr39
            refine any_takes [0, 1, 2, 3, 4] (by kernel_rfl) hH40 _ _ _ (by kernel_rfl) ?_
            refine qs_y rfl rfl (yv_move rfl) (qs_y rfl rfl (yv_move rfl) ?_)
            refine qs_y rfl rfl (yv_len T.sl100 rfl ((hB.now hH40 (n := 1) rfl).1).is) ?_
            refine qs_y rfl rfl (yv_eql rfl rfl) ?_
            refine qs_y rfl rfl (yv_move rfl) (qs_nil ?_)
            by_cases hc41 : (k : Int) = (VB.length : Int)
            · skip
              refine any_takes [5, 6, 7, 8, 9, 10, 11, 12, 13, 14, 15, 16, 17, 18, 19, 20] (by kernel_rfl) hH40 _ _ _ (by kernel_rfl) ?_
              refine qs_no rfl rfl rfl (decide_eq_true hc41) rfl ?_
              refine qs_no rfl rfl rfl (decide_eq_true hc41) rfl ?_
              refine qs_no rfl rfl rfl (decide_eq_true hc41) rfl ?_
              refine qs_no rfl rfl rfl (decide_eq_true hc41) rfl ?_
              refine qs_no rfl rfl rfl (decide_eq_true hc41) rfl ?_
              refine qs_none rfl rfl rfl rfl ?_
              refine qs_none rfl rfl rfl rfl ?_
              refine qs_none rfl rfl rfl rfl ?_
              refine qs_none rfl rfl rfl rfl ?_
              refine qs_none rfl rfl rfl rfl ?_
              refine qs_none rfl rfl rfl rfl ?_
              refine qs_none rfl rfl rfl rfl ?_
              refine qs_none rfl rfl rfl rfl ?_
              refine qs_none rfl rfl rfl rfl ?_
              refine qs_no rfl rfl rfl (decide_eq_true hc41) rfl ?_
              refine qs_y rfl rfl (yv_pick_t rfl (decide_eq_true hc41) rfl) ?_
              refine qs_nil ?_
              refine any_done (by kernel_rfl) ?_
              refine thn_n ?_
              refine cond_t rfl rfl ?_
              refine seq ?_
              have hleft : True := trivial
              refine region (ops_y hH40 rfl rfl (yv_move rfl) (ops_y hH40 rfl rfl (yv_move rfl) (ops_y hH40 rfl rfl (yv_move rfl) ?_)))
              refine ops_y hH40 rfl rfl (yv_index T.sl100 rfl rfl ((rv31.now hH40 (n := 1) rfl).1).is (by omega)) ?_
              refine ops_y hH40 rfl rfl (yv_load T.one22 rfl (fun _ hw => Rd.at ((rv31.now hw (n := 1) rfl).1) (i := (i : Int)) (by omega) (j := 0) rfl)) ?_
              refine op_lit (us := [(0, (nth VA (i : Int)).1)]) T.el100_encV [(nth VA (i : Int))] rfl (by decide) rfl (fun a ha => by simp [ha.ev (show ev _ (.tmp 59) = some _ from rfl)]) (fun w => by obtain ⟨_, _, _, e⟩ := ((nth VA (i : Int))).2; rw [show [(nth VA (i : Int))].flatMap encV = [((nth VA (i : Int))).1] from rfl, e]; kernel_rfl) hH40 (fun u42 lo44 hi45 w43 hH46 => ?_)
              refine op_append (n := 1) T.el100_encV rfl rfl rfl hH46 rfl (Heap.rdw T.el100_encV hH46 (n := 0) rfl) (by first | omega | (simp only [List.length_append, List.length_cons, List.length_nil]; omega)) (fun u47 lo49 hi50 w48 hH51 => ?_)
              refine ops_y hH51 rfl rfl (yv_assign rfl) (ops_nil (thn_n (region (ops_y hH51 rfl rfl (yv_move rfl) ?_))))
              refine ops_y hH51 rfl rfl (yv_add rfl rfl (by omega)) ?_
              refine ops_y hH51 rfl rfl (yv_assign rfl) (ops_nil (blk_n ?_))
              have hH52 := (hH51.sub (List.Sublist.cons _ (List.Sublist.refl _)))
              refine lp_n (i + 1, k, (OV ++ [nth VA (i : Int)]), (OR ++ [nth RA (i : Int)]), u47, lo49, hi50) (Sub.cons rfl (Sub.cons rfl (Sub.cons rfl (Sub.cons rfl (Sub.cons rfl (Sub.cons rfl (Sub.nil _))))))) ?_ ?_
              · exact ⟨(Heap.recast (n := 0) hH52 rfl (rfl)), by omega, by omega, hMG.left hAs hBs (by omega) (by first | exact .inl (by omega) | exact .inr ⟨by omega, by assumption⟩), hPt.snoc (rv31.at (by omega) (by omega))⟩
              · first | (dsimp only; omega) | (show _ < _; omega)
            · skip
              refine any_takes [5, 6, 7, 8, 9, 10, 11, 12, 13, 14, 15, 16, 17] (by kernel_rfl) hH40 _ _ _ (by kernel_rfl) ?_
              refine qs_yes rfl rfl rfl (decide_eq_false hc41) rfl (yv_move rfl) ?_
              refine qs_yes rfl rfl rfl (decide_eq_false hc41) rfl (yv_move rfl) ?_
              refine qs_yes rfl rfl rfl (decide_eq_false hc41) rfl (yv_len T.sl100 rfl ((rv31.now hH40 (n := 1) rfl).1).is) ?_
              refine qs_yes rfl rfl rfl (decide_eq_false hc41) rfl (yv_lss rfl rfl) ?_
              refine qs_yes rfl rfl rfl (decide_eq_false hc41) rfl (yv_move rfl) ?_
              refine qs_yes rfl rfl rfl (decide_eq_true hc37) rfl (yv_move rfl) ?_
              refine qs_yes rfl rfl rfl (decide_eq_true hc37) rfl (yv_move rfl) ?_
              refine qs_yes rfl rfl rfl (decide_eq_true hc37) rfl (yv_index T.sl100 rfl rfl ((rv31.now hH40 (n := 1) rfl).1).is (by omega)) ?_
              refine qs_yes rfl rfl rfl (decide_eq_true hc37) rfl (yv_load T.one22 rfl (fun _ hw => Rd.at ((rv31.now hw (n := 1) rfl).1) (i := (i : Int)) (by omega) (j := 0) rfl)) ?_
              refine qs_yes rfl rfl rfl (decide_eq_true hc37) rfl (yv_move rfl) ?_
              refine qs_yes rfl rfl rfl (decide_eq_true hc37) rfl (yv_move rfl) ?_
              refine qs_yes rfl rfl rfl (decide_eq_true hc37) rfl (yv_index T.sl100 rfl rfl ((hB.now hH40 (n := 1) rfl).1).is (by omega)) ?_
              refine qs_yes rfl rfl rfl (decide_eq_true hc37) rfl (yv_load T.one22 rfl (fun _ hw => Rd.at ((hB.now hw (n := 1) rfl).1) (i := (k : Int)) (by omega) (j := 0) rfl)) ?_
              refine qs_nil ?_
              refine any_all [18] (by kernel_rfl) rfl ?_
              refine ⟨⟨_, rfl, ?_⟩, trivial⟩
              · skip
                refine guard_yes rfl rfl (decide_eq_true hc37) ?_
                refine op_fnV rfl rfl rfl hH40 (c51 (RowsV.at (rv31.now hH40 (n := 1) rfl) (by omega) (by omega)) (RowsV.at (hB.now hH40 (n := 1) rfl) (by omega) (by omega)) (by omega) (by omega)) (fun w53 hH54 => ?_)
                refine ops_nil ?_
                refine ⟨hH54, ?_⟩
                refine any_takes [19, 20] (by kernel_rfl) hH54 _ _ _ (by kernel_rfl) ?_
                refine qs_yes rfl rfl rfl (decide_eq_false hc41) rfl (yv_pick_t rfl (decide_eq_true hc37) rfl) ?_
                refine qs_y rfl rfl (yv_pick_f rfl (decide_eq_false hc41) rfl) ?_
                refine qs_nil ?_
                refine any_done (by kernel_rfl) ?_
                refine thn_n ?_
                by_cases hc55 : Q.cmpL (nth RA (i : Int)) (nth RB (k : Int)) < 0
                · skip
                  refine cond_t rfl (decide_eq_true hc55) ?_
                  refine seq ?_
                  have hleft : True := trivial
                  refine region (ops_y hH54 rfl rfl (yv_move rfl) (ops_y hH54 rfl rfl (yv_move rfl) (ops_y hH54 rfl rfl (yv_move rfl) ?_)))
                  refine ops_y hH54 rfl rfl (yv_index T.sl100 rfl rfl ((rv31.now hH54 (n := 1) rfl).1).is (by omega)) ?_
                  refine ops_y hH54 rfl rfl (yv_load T.one22 rfl (fun _ hw => Rd.at ((rv31.now hw (n := 1) rfl).1) (i := (i : Int)) (by omega) (j := 0) rfl)) ?_
                  refine op_lit (us := [(0, (nth VA (i : Int)).1)]) T.el100_encV [(nth VA (i : Int))] rfl (by decide) rfl (fun a ha => by simp [ha.ev (show ev _ (.tmp 59) = some _ from rfl)]) (fun w => by obtain ⟨_, _, _, e⟩ := ((nth VA (i : Int))).2; rw [show [(nth VA (i : Int))].flatMap encV = [((nth VA (i : Int))).1] from rfl, e]; kernel_rfl) hH54 (fun u56 lo58 hi59 w57 hH60 => ?_)
                  refine op_append (n := 1) T.el100_encV rfl rfl rfl hH60 rfl (Heap.rdw T.el100_encV hH60 (n := 0) rfl) (by first | omega | (simp only [List.length_append, List.length_cons, List.length_nil]; omega)) (fun u61 lo63 hi64 w62 hH65 => ?_)
                  refine ops_y hH65 rfl rfl (yv_assign rfl) (ops_nil (thn_n (region (ops_y hH65 rfl rfl (yv_move rfl) ?_))))
                  refine ops_y hH65 rfl rfl (yv_add rfl rfl (by omega)) ?_
                  refine ops_y hH65 rfl rfl (yv_assign rfl) (ops_nil (blk_n ?_))
                  have hH66 := (hH65.sub (List.Sublist.cons _ (List.Sublist.refl _)))
                  refine lp_n (i + 1, k, (OV ++ [nth VA (i : Int)]), (OR ++ [nth RA (i : Int)]), u61, lo63, hi64) (Sub.cons rfl (Sub.cons rfl (Sub.cons rfl (Sub.cons rfl (Sub.cons rfl (Sub.cons rfl (Sub.nil _))))))) ?_ ?_
                  · exact ⟨(Heap.recast (n := 0) hH66 rfl (rfl)), by omega, by omega, hMG.left hAs hBs (by omega) (by first | exact .inl (by omega) | exact .inr ⟨by omega, by assumption⟩), hPt.snoc (rv31.at (by omega) (by omega))⟩
                  · first | (dsimp only; omega) | (show _ < _; omega)
                · skip
                  refine cond_f rfl (decide_eq_false hc55) ?_
                  refine seq ?_
                  have hright : True := trivial
                  refine region (ops_y hH54 rfl rfl (yv_move rfl) (ops_y hH54 rfl rfl (yv_move rfl) (ops_y hH54 rfl rfl (yv_move rfl) ?_)))
                  refine ops_y hH54 rfl rfl (yv_index T.sl100 rfl rfl ((hB.now hH54 (n := 1) rfl).1).is (by omega)) ?_
                  refine ops_y hH54 rfl rfl (yv_load T.one22 rfl (fun _ hw => Rd.at ((hB.now hw (n := 1) rfl).1) (i := (k : Int)) (by omega) (j := 0) rfl)) ?_
                  refine op_lit (us := [(0, (nth VB (k : Int)).1)]) T.el100_encV [(nth VB (k : Int))] rfl (by decide) rfl (fun a ha => by simp [ha.ev (show ev _ (.tmp 68) = some _ from rfl)]) (fun w => by obtain ⟨_, _, _, e⟩ := ((nth VB (k : Int))).2; rw [show [(nth VB (k : Int))].flatMap encV = [((nth VB (k : Int))).1] from rfl, e]; kernel_rfl) hH54 (fun u67 lo69 hi70 w68 hH71 => ?_)
                  refine op_append (n := 1) T.el100_encV rfl rfl rfl hH71 rfl (Heap.rdw T.el100_encV hH71 (n := 0) rfl) (by first | omega | (simp only [List.length_append, List.length_cons, List.length_nil]; omega)) (fun u72 lo74 hi75 w73 hH76 => ?_)
                  refine ops_y hH76 rfl rfl (yv_assign rfl) (ops_nil (thn_n (region (ops_y hH76 rfl rfl (yv_move rfl) ?_))))
                  refine ops_y hH76 rfl rfl (yv_add rfl rfl (by omega)) ?_
                  refine ops_y hH76 rfl rfl (yv_assign rfl) (ops_nil (blk_n ?_))
                  have hH77 := (hH76.sub (List.Sublist.cons _ (List.Sublist.refl _)))
                  refine lp_n (i, k + 1, (OV ++ [nth VB (k : Int)]), (OR ++ [nth RB (k : Int)]), u72, lo74, hi75) (Sub.cons rfl (Sub.cons rfl (Sub.cons rfl (Sub.cons rfl (Sub.cons rfl (Sub.cons rfl (Sub.nil _))))))) ?_ ?_
                  · exact ⟨(Heap.recast (n := 0) hH77 rfl (rfl)), by omega, by omega, hMG.right hAs hBs (by omega) (by first | exact .inl (by omega) | exact .inr ⟨by omega, by assumption⟩), hPt.snoc (hB.at (by omega) (by omega))⟩
                  · first | (dsimp only; omega) | (show _ < _; omega)
          · skip
            refine guard_yes rfl rfl (decide_eq_false hc37) ?_
            refine ops_y hH36 rfl rfl (yv_move rfl) ?_
            refine guard_yes rfl rfl (decide_eq_false hc37) ?_
            refine ops_y hH36 rfl rfl (yv_move rfl) ?_
            refine guard_yes rfl rfl (decide_eq_false hc37) ?_
            refine ops_y hH36 rfl rfl (yv_len T.sl100 rfl ((hB.now hH36 (n := 1) rfl).1).is) ?_
            refine guard_yes rfl rfl (decide_eq_false hc37) ?_
            refine ops_y hH36 rfl rfl (yv_lss rfl rfl) ?_
            refine ops_y hH36 rfl rfl (yv_pick_f rfl (decide_eq_false hc37) rfl) ?_
            refine ops_nil (thn_n ?_)
            by_cases hc78 : (k : Int) < (VB.length : Int)
            · skip
              refine cond_t rfl (decide_eq_true hc78) ?_
              refine skip (thn_n (block (seq ?_)))
              refine region_draw (fun w' => Heap [ow lo_5 hi_5 22 1 encV v_5 OV, base w21] w') T.mixed (fun w79 hr80 => ?_)
              have hH81 := hH36.redrawn hr80
              refine any_takes [0, 1, 2, 3, 4] (by kernel_rfl) hH81 _ _ _ (by kernel_rfl) ?_
              refine qs_y rfl rfl (yv_move rfl) (qs_y rfl rfl (yv_move rfl) ?_)
              refine qs_y rfl rfl (yv_len T.sl100 rfl ((hB.now hH81 (n := 1) rfl).1).is) ?_
              refine qs_y rfl rfl (yv_eql rfl rfl) ?_
              refine qs_y rfl rfl (yv_move rfl) (qs_nil ?_)
              by_cases hc82 : (k : Int) = (VB.length : Int)
              · skip
                refine any_takes [5, 6, 7, 8, 9, 10, 11, 12, 13, 14, 15, 16, 17, 18, 19, 20] (by kernel_rfl) hH81 _ _ _ (by kernel_rfl) ?_
                refine qs_no rfl rfl rfl (decide_eq_true hc82) rfl ?_
                refine qs_no rfl rfl rfl (decide_eq_true hc82) rfl ?_
                refine qs_no rfl rfl rfl (decide_eq_true hc82) rfl ?_
                refine qs_no rfl rfl rfl (decide_eq_true hc82) rfl ?_
                refine qs_no rfl rfl rfl (decide_eq_true hc82) rfl ?_
                refine qs_none rfl rfl rfl rfl ?_
                refine qs_none rfl rfl rfl rfl ?_
                refine qs_none rfl rfl rfl rfl ?_
                refine qs_none rfl rfl rfl rfl ?_
                refine qs_none rfl rfl rfl rfl ?_
                refine qs_none rfl rfl rfl rfl ?_
                refine qs_none rfl rfl rfl rfl ?_
                refine qs_none rfl rfl rfl rfl ?_
                refine qs_none rfl rfl rfl rfl ?_
                refine qs_no rfl rfl rfl (decide_eq_true hc82) rfl ?_
                refine qs_y rfl rfl (yv_pick_t rfl (decide_eq_true hc82) rfl) ?_
                refine qs_nil ?_
                refine any_done (by kernel_rfl) ?_
                refine thn_n ?_
                refine cond_t rfl rfl ?_
                refine seq ?_
                have hleft : True := trivial
                refine region (ops_y hH81 rfl rfl (yv_move rfl) (ops_y hH81 rfl rfl (yv_move rfl) (ops_y hH81 rfl rfl (yv_move rfl) ?_)))
                refine ops_y hH81 rfl rfl (yv_index T.sl100 rfl rfl ((rv31.now hH81 (n := 1) rfl).1).is (by omega)) ?_
                refine ops_y hH81 rfl rfl (yv_load T.one22 rfl (fun _ hw => Rd.at ((rv31.now hw (n := 1) rfl).1) (i := (i : Int)) (by omega) (j := 0) rfl)) ?_
                refine op_lit (us := [(0, (nth VA (i : Int)).1)]) T.el100_encV [(nth VA (i : Int))] rfl (by decide) rfl (fun a ha => by simp [ha.ev (show ev _ (.tmp 59) = some _ from rfl)]) (fun w => by obtain ⟨_, _, _, e⟩ := ((nth VA (i : Int))).2; rw [show [(nth VA (i : Int))].flatMap encV = [((nth VA (i : Int))).1] from rfl, e]; kernel_rfl) hH81 (fun u83 lo85 hi86 w84 hH87 => ?_)
                refine op_append (n := 1) T.el100_encV rfl rfl rfl hH87 rfl (Heap.rdw T.el100_encV hH87 (n := 0) rfl) (by first | omega | (simp only [List.length_append, List.length_cons, List.length_nil]; omega)) (fun u88 lo90 hi91 w89 hH92 => ?_)
                refine ops_y hH92 rfl rfl (yv_assign rfl) (ops_nil (thn_n (region (ops_y hH92 rfl rfl (yv_move rfl) ?_))))
                refine ops_y hH92 rfl rfl (yv_add rfl rfl (by omega)) ?_
                refine ops_y hH92 rfl rfl (yv_assign rfl) (ops_nil (blk_n ?_))
                have hH93 := (hH92.sub (List.Sublist.cons _ (List.Sublist.refl _)))
                refine lp_n (i + 1, k, (OV ++ [nth VA (i : Int)]), (OR ++ [nth RA (i : Int)]), u88, lo90, hi91) (Sub.cons rfl (Sub.cons rfl (Sub.cons rfl (Sub.cons rfl (Sub.cons rfl (Sub.cons rfl (Sub.nil _))))))) ?_ ?_
                · exact ⟨(Heap.recast (n := 0) hH93 rfl (rfl)), by omega, by omega, hMG.left hAs hBs (by omega) (by first | exact .inl (by omega) | exact .inr ⟨by omega, by assumption⟩), hPt.snoc (rv31.at (by omega) (by omega))⟩
                · first | (dsimp only; omega) | (show _ < _; omega)
              · skip
                refine any_takes [5, 6, 7, 8, 9, 10, 11, 12, 13, 14, 15, 16, 17, 18, 19, 20] (by kernel_rfl) hH81 _ _ _ (by kernel_rfl) ?_
                refine qs_yes rfl rfl rfl (decide_eq_false hc82) rfl (yv_move rfl) ?_
                refine qs_yes rfl rfl rfl (decide_eq_false hc82) rfl (yv_move rfl) ?_
                refine qs_yes rfl rfl rfl (decide_eq_false hc82) rfl (yv_len T.sl100 rfl ((rv31.now hH81 (n := 1) rfl).1).is) ?_
                refine qs_yes rfl rfl rfl (decide_eq_false hc82) rfl (yv_lss rfl rfl) ?_
                refine qs_yes rfl rfl rfl (decide_eq_false hc82) rfl (yv_move rfl) ?_
                refine qs_no rfl rfl rfl (decide_eq_false hc37) rfl ?_
                refine qs_no rfl rfl rfl (decide_eq_false hc37) rfl ?_
                refine qs_no rfl rfl rfl (decide_eq_false hc37) rfl ?_
                refine qs_no rfl rfl rfl (decide_eq_false hc37) rfl ?_
                refine qs_no rfl rfl rfl (decide_eq_false hc37) rfl ?_
                refine qs_no rfl rfl rfl (decide_eq_false hc37) rfl ?_
                refine qs_no rfl rfl rfl (decide_eq_false hc37) rfl ?_
                refine qs_no rfl rfl rfl (decide_eq_false hc37) rfl ?_
                refine qs_no rfl rfl rfl (decide_eq_false hc37) rfl ?_
                refine qs_yes rfl rfl rfl (decide_eq_false hc82) rfl (yv_pick_f rfl (decide_eq_false hc37) rfl) ?_
                refine qs_y rfl rfl (yv_pick_f rfl (decide_eq_false hc82) rfl) ?_
                refine qs_nil ?_
                refine any_done (by kernel_rfl) ?_
                refine thn_n ?_
                refine cond_f rfl rfl ?_
                refine seq ?_
                have hright : True := trivial
                refine region (ops_y hH81 rfl rfl (yv_move rfl) (ops_y hH81 rfl rfl (yv_move rfl) (ops_y hH81 rfl rfl (yv_move rfl) ?_)))
                refine ops_y hH81 rfl rfl (yv_index T.sl100 rfl rfl ((hB.now hH81 (n := 1) rfl).1).is (by omega)) ?_
                refine ops_y hH81 rfl rfl (yv_load T.one22 rfl (fun _ hw => Rd.at ((hB.now hw (n := 1) rfl).1) (i := (k : Int)) (by omega) (j := 0) rfl)) ?_
                refine op_lit (us := [(0, (nth VB (k : Int)).1)]) T.el100_encV [(nth VB (k : Int))] rfl (by decide) rfl (fun a ha => by simp [ha.ev (show ev _ (.tmp 68) = some _ from rfl)]) (fun w => by obtain ⟨_, _, _, e⟩ := ((nth VB (k : Int))).2; rw [show [(nth VB (k : Int))].flatMap encV = [((nth VB (k : Int))).1] from rfl, e]; kernel_rfl) hH81 (fun u94 lo96 hi97 w95 hH98 => ?_)
                refine op_append (n := 1) T.el100_encV rfl rfl rfl hH98 rfl (Heap.rdw T.el100_encV hH98 (n := 0) rfl) (by first | omega | (simp only [List.length_append, List.length_cons, List.length_nil]; omega)) (fun u99 lo101 hi102 w100 hH103 => ?_)
                refine ops_y hH103 rfl rfl (yv_assign rfl) (ops_nil (thn_n (region (ops_y hH103 rfl rfl (yv_move rfl) ?_))))
                refine ops_y hH103 rfl rfl (yv_add rfl rfl (by omega)) ?_
                refine ops_y hH103 rfl rfl (yv_assign rfl) (ops_nil (blk_n ?_))
                have hH104 := (hH103.sub (List.Sublist.cons _ (List.Sublist.refl _)))
                refine lp_n (i, k + 1, (OV ++ [nth VB (k : Int)]), (OR ++ [nth RB (k : Int)]), u99, lo101, hi102) (Sub.cons rfl (Sub.cons rfl (Sub.cons rfl (Sub.cons rfl (Sub.cons rfl (Sub.cons rfl (Sub.nil _))))))) ?_ ?_
                · exact ⟨(Heap.recast (n := 0) hH104 rfl (rfl)), by omega, by omega, hMG.right hAs hBs (by omega) (by first | exact .inl (by omega) | exact .inr ⟨by omega, by assumption⟩), hPt.snoc (hB.at (by omega) (by omega))⟩
                · first | (dsimp only; omega) | (show _ < _; omega)
            · skip
              refine cond_f rfl (decide_eq_false hc78) ?_
              refine exit (thn_x (lp_x (blk_here (thn_n (seq (region (ops_y hH36 rfl rfl (yv_move rfl) (ops_y hH36 rfl rfl (yv_assign rfl) (ops_nil ?_)))))))))
              refine thn_n (ret ?_)
              refine finA hb32 (hH36.front (n := 1) rfl) (fun w' hf => (res1 rfl (show RV _ _ _ (.tmp 2) _ from rfl))) (fun w' hf => ?_)
              first | exact ⟨VV, RR, ha.now hf (n := 0) rfl, List.Perm.refl _, Q.short_srt (by omega)⟩ | (have hie : i = RA.length := (by omega); have hke : k = RB.length := (by omega); rw [hie, hke] at hMG; exact ⟨OV, OR, RowsV.of_own T.el100_encV hf (n := 1) rfl hPt, List.take_append_drop (q : Int).toNat RR ▸ hMG.done.trans (hAp.append hBp), hMG.srt⟩)

theorem c97 {m : Nat} {u : Value} {VV : List SV} {RR : List (List Int)} {w : World} (ha : RowsV u VV RR w) (hn : RR.length ≤ 1430) (hm : ∀ x ∈ RR, x.length = m) (hm2 : m ≤ 1000) : Fn Try.prog 97 #[u] w (fun x w2 => Below w.heap.size w w2 → ∃ VV2 RR2, RowsV x VV2 RR2 w2 ∧ RR2.Perm RR ∧ Q.Srt RR2) := by
  induction hlen : RR.length using Nat.strongRecOn generalizing u VV RR w with
  | _ n ih => exact c97r ha hn hm hm2 (fun {u1 VV1 RR1 w1} hlt h1 h2 => ih _ (by omega) h1 (by omega) h2 rfl)

end Go.Fip
