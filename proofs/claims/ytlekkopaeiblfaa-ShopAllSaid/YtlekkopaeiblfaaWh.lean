/- Walks, by program (wip/tools). -/
import Derived.Test.YtlekkopaeiblfaaWg
import Derived.Test.YtlekkopaeiblfaaSd
set_option linter.unusedVariables false
set_option linter.unusedSimpArgs false
set_option linter.unusedSectionVars false
set_option linter.unnecessarySimpa false
namespace Go.Fip
open Go.Proofs Go.RowKit

theorem c92 {v : Value} {js : List S.Pr} {vb vt vf : Value} {B U F : List Int} {w : World} (h0 : Rd encP 2 v js w) (hB : Rd encI 1 vb B w) (hT : Rd encI 1 vt U w) (hF : Rd encI 1 vf F w) (hj : S.Jobs js) (hO : S.Ord js.length B U F)  :
    Fn Try.prog 92 [v, (.agg #[vb, vt, vf])].toArray w (fun u w => ∃ d m E, u = .pointer (some ⟨d, 0, none⟩) ∧ Day d vb vt vf m E w ∧ S.DayOK js B U F E) := by
  refine fn_of' (args := [v, (.agg #[vb, vt, vf])]) Try.func92 rfl (ent Try.func92 (by kernel_rfl) rfl) rfl rfl (fun hH => ?_)
  have hO8 := hO
  obtain ⟨hlB, hlU, hlF, hOk⟩ := hO8
  have hl1 := hj.1
  have hl8 := hj.2.1
  refine seq ?_
  refine region ?_
  refine op_box (us := [vb, vt, vf]) rfl rfl rfl hH (fun b1 w2 hH3 => ?_)
  refine ops_y hH3 rfl rfl (yv_assign rfl) ?_
  refine ops_nil ?_
  refine thn_n ?_
  refine seq ?_
  refine region ?_
  refine ops_y hH3 rfl rfl (yv_loadA (cs := [vb, vt, vf]) T.agg41 rfl rfl (fun _ hw => Heap.cellsw hw (n := 0) rfl (k := 0) rfl)) ?_
  refine op_makeMap kvW vvI rfl hH3 (fun b4 w5 hH6 => ?_)
  refine ops_y hH6 rfl rfl (yv_build (v := (.agg #[vb, vt, vf, (.map (some b4))])) (us := [(0, (.agg #[vb, vt, vf])), (1, (.map (some b4)))]) (fun a ha => by simp [ha.ev (show ev _ (.tmp 13) = some _ from rfl), ha.ev (show ev _ (.tmp 14) = some _ from rfl)]) (fun w => by kernel_rfl)) ?_
  refine op_box (us := [vb, vt, vf, (.map (some b4))]) rfl rfl rfl hH6 (fun b7 w8 hH9 => ?_)
  refine ops_y hH9 rfl rfl (yv_assign rfl) ?_
  refine ops_nil ?_
  refine thn_n ?_
  refine seq ?_
  refine region ?_
  refine op_makeMap kvW vvI rfl hH9 (fun b10 w11 hH12 => ?_)
  refine ops_y hH12 rfl rfl (yv_assign rfl) ?_
  refine ops_nil ?_
  refine thn_n ?_
  refine seq ?_
  refine seq ?_
  refine region ?_
  refine ops_y hH12 rfl rfl (yv_move rfl) ?_
  refine ops_y hH12 rfl rfl (yv_len T.sl22 rfl (h0.now hH12 (n := 4) rfl).is) ?_
  refine ops_y hH12 rfl rfl (yv_mul rfl rfl (by omega)) ?_
  refine ops_y hH12 rfl rfl (yv_move rfl) ?_
  refine ops_nil ?_
  refine thn_n ?_
  refine block ?_
  refine loop (S := Nat) (fun k => [(21, (.int .i64 (k : Int))), (0, v), (4, (.pointer none)), (5, (.pointer (some ⟨b7, 0, none⟩))), (6, (.map (some b10))), (14, (.map (some b4))), (17, (.map (some b10))), (20, (.int .i64 (2 * (js.length : Int))))]) (fun k w1 => Heap [mp kvW vvI b10 (S.leftTo k), bx b7 103 [vb, vt, vf, (.map (some b4))], mp kvW vvI b4 ([] : List (Int × Int)), bx b1 41 [vb, vt, vf], base w] w1 ∧ k ≤ 2 * js.length) (fun k => 2 * js.length - k) (0) (Sub.cons rfl (Sub.cons rfl (Sub.cons rfl (Sub.cons rfl (Sub.cons rfl (Sub.cons rfl (Sub.cons rfl (Sub.cons rfl (Sub.nil _))))))))) ?_ ?_
  · exact ⟨hH12, by omega⟩
  · rintro k w13 ⟨hH14, hk⟩
    show Holds _ _ _ _ _ [(21, (.int .i64 (k : Int))), (0, v), (4, (.pointer none)), (5, (.pointer (some ⟨b7, 0, none⟩))), (6, (.map (some b10))), (14, (.map (some b4))), (17, (.map (some b10))), (20, (.int .i64 (2 * (js.length : Int))))] _ _
    refine seq ?_
    refine region ?_
    refine ops_y hH14 rfl rfl (yv_lss rfl rfl) ?_
    refine ops_nil ?_
    refine thn_n ?_
    refine seq ?_
    by_cases hc15 : (k : Int) < (2 * (js.length : Int))
    · skip
      refine cond_t rfl (decide_eq_true hc15) ?_
      refine skip ?_
      refine thn_n ?_
      refine seq ?_
      refine block ?_
      refine seq ?_
      refine region ?_
      refine ops_y hH14 rfl rfl (yv_move rfl) ?_
      refine ops_y hH14 rfl rfl (yv_assign rfl) ?_
      refine ops_nil ?_
      refine thn_n ?_
      refine region ?_
      refine ops_y hH14 rfl rfl (yv_move rfl) ?_
      refine ops_y hH14 rfl rfl (yv_move rfl) ?_
      refine ops_y hH14 rfl rfl (yv_build (v := (.agg #[(.int .i64 (k : Int))])) (us := [(0, (.int .i64 (k : Int)))]) (fun a ha => by simp [ha.ev (show ev _ (.tmp 25) = some _ from rfl)]) (fun w => by kernel_rfl)) ?_
      refine op_update (n := 0) (k := (k : Int)) (v := 1) T.m134 rfl rfl rfl hH14 rfl (fun w16 hH17 => ?_)
      refine ops_nil ?_
      refine blk_n ?_
      refine thn_n ?_
      refine region ?_
      refine ops_y hH17 rfl rfl (yv_add rfl rfl (by omega)) ?_
      refine ops_y hH17 rfl rfl (yv_move rfl) ?_
      refine ops_nil ?_
      refine lp_n (k + 1) (Sub.cons rfl (Sub.cons rfl (Sub.cons rfl (Sub.cons rfl (Sub.cons rfl (Sub.cons rfl (Sub.cons rfl (Sub.cons rfl (Sub.nil _))))))))) ?_ ?_
      · exact ⟨hH17, by omega⟩
      · first | (dsimp only; omega) | (show _ < _; omega)
    · skip
      have hk2 : k = 2 * js.length := by omega
      refine cond_f rfl (decide_eq_false hc15) ?_
      refine exit ?_
      refine thn_x ?_
      refine lp_x ?_
      refine blk_here ?_
      refine thn_n ?_
      refine seq ?_
      refine region ?_
      refine ops_y hH14 rfl rfl (yv_build (v := (.agg #[(.int .i64 0), (.int .i64 0)])) (us := []) (fun a ha => by simp []) (fun w => by kernel_rfl)) ?_
      refine op_alloc (z := (.agg #[(.int .i64 0), (.int .i64 0)])) (us := [(.int .i64 0), (.int .i64 0)]) (fun _ => by kernel_rfl) rfl rfl hH14 (fun b18 w19 hH20 => ?_)
      refine op_store (n := 0) (j := 0) (us := [(.int .i64 0), (.int .i64 0)]) rfl rfl hH20 rfl T.sz85 rfl rfl rfl (by rfl) (fun w21 hH22 => ?_)
      refine ops_nil ?_
      refine thn_n ?_
      refine block ?_
      refine loop (S := S.Mm × S.Mm × Int × Int) (fun (E, L, a, b) => [(0, v), (5, (.pointer (some ⟨b7, 0, none⟩))), (6, (.map (some b10))), (8, (.pointer (some ⟨b18, 0, none⟩))), (14, (.map (some b4))), (17, (.map (some b10)))]) (fun (E, L, a, b) w1 => Heap [bx b18 85 [(.int .i64 a), (.int .i64 b)], mp kvW vvI b10 L, bx b7 103 [vb, vt, vf, (.map (some b4))], mp kvW vvI b4 E, bx b1 41 [vb, vt, vf], base w] w1 ∧ S.DI js B U F E L a b) (fun (E, L, a, b) => L.length) ([], (S.leftTo (2 * js.length)), 0, 0) (Sub.cons rfl (Sub.cons rfl (Sub.cons rfl (Sub.cons rfl (Sub.cons rfl (Sub.cons rfl (Sub.nil _))))))) ?_ ?_
      · exact ⟨(Heap.recastMap (n := 1) hH22 rfl (by rw [hk2])), S.DI.start⟩
      · rintro ⟨E, L, a, b⟩ w23 ⟨hH24, hD⟩
        show Holds _ _ _ _ _ [(0, v), (5, (.pointer (some ⟨b7, 0, none⟩))), (6, (.map (some b10))), (8, (.pointer (some ⟨b18, 0, none⟩))), (14, (.map (some b4))), (17, (.map (some b10)))] _ _
        refine block ?_
        refine seq ?_
        refine region ?_
        refine ops_y hH24 rfl rfl (yv_loadA (cs := [(.int .i64 a), (.int .i64 b)]) T.agg85 rfl rfl (fun _ hw => Heap.cellsw hw (n := 0) rfl (k := 0) rfl)) ?_
        refine op_alloc (z := (.agg #[(.int .i64 0), (.int .i64 0)])) (us := [(.int .i64 0), (.int .i64 0)]) (fun _ => by kernel_rfl) rfl rfl hH24 (fun b25 w26 hH27 => ?_)
        refine op_store (n := 0) (j := 0) (us := [(.int .i64 a), (.int .i64 b)]) rfl rfl hH27 rfl T.sz85 rfl rfl rfl (by rfl) (fun w28 hH29 => ?_)
        refine ops_nil ?_
        refine thn_n ?_
        refine seq ?_
        refine seq ?_
        refine region ?_
        refine ops_y hH29 rfl rfl (yv_move rfl) ?_
        refine ops_y hH29 rfl rfl (yv_len T.sl22 rfl (h0.now hH29 (n := 6) rfl).is) ?_
        refine ops_y hH29 rfl rfl (yv_mul rfl rfl (by omega)) ?_
        refine ops_y hH29 rfl rfl (yv_move rfl) ?_
        refine ops_nil ?_
        refine thn_n ?_
        refine block ?_
        refine loop (S := Nat × S.Mm × S.Mm × Int × Int) (fun (k, E3, L3, a3, b3) => [(33, (.int .i64 (k : Int))), (0, v), (5, (.pointer (some ⟨b7, 0, none⟩))), (6, (.map (some b10))), (8, (.pointer (some ⟨b18, 0, none⟩))), (9, (.pointer (some ⟨b25, 0, none⟩))), (14, (.map (some b4))), (17, (.map (some b10))), (32, (.int .i64 (2 * (js.length : Int))))]) (fun (k, E3, L3, a3, b3) w1 => Heap [bx b25 85 [(.int .i64 a), (.int .i64 b)], bx b18 85 [(.int .i64 a3), (.int .i64 b3)], mp kvW vvI b10 L3, bx b7 103 [vb, vt, vf, (.map (some b4))], mp kvW vvI b4 E3, bx b1 41 [vb, vt, vf], base w] w1 ∧ k ≤ 2 * js.length ∧ S.DI js B U F E3 L3 a3 b3 ∧ S.Rnd js B U F E L a b k E3 L3 a3 b3) (fun (k, E3, L3, a3, b3) => 2 * js.length - k) (0, E, L, a, b) (Sub.cons rfl (Sub.cons rfl (Sub.cons rfl (Sub.cons rfl (Sub.cons rfl (Sub.cons rfl (Sub.cons rfl (Sub.cons rfl (Sub.cons rfl (Sub.nil _)))))))))) ?_ ?_
        · exact ⟨hH29, by omega, hD, .inl ⟨rfl, rfl, rfl, rfl, S.all_zero⟩⟩
        · rintro ⟨k, E3, L3, a3, b3⟩ w30 ⟨hH31, hk, hD, hU⟩
          show Holds _ _ _ _ _ [(33, (.int .i64 (k : Int))), (0, v), (5, (.pointer (some ⟨b7, 0, none⟩))), (6, (.map (some b10))), (8, (.pointer (some ⟨b18, 0, none⟩))), (9, (.pointer (some ⟨b25, 0, none⟩))), (14, (.map (some b4))), (17, (.map (some b10))), (32, (.int .i64 (2 * (js.length : Int))))] _ _
          refine seq ?_
          refine region ?_
          refine ops_y hH31 rfl rfl (yv_lss rfl rfl) ?_
          refine ops_nil ?_
          refine thn_n ?_
          refine seq ?_
          by_cases hc32 : (k : Int) < (2 * (js.length : Int))
          · skip
            refine cond_t rfl (decide_eq_true hc32) ?_
            refine skip ?_
            refine thn_n ?_
            refine seq ?_
            refine block ?_
            refine seq ?_
            refine region ?_
            refine ops_y hH31 rfl rfl (yv_move rfl) ?_
            refine ops_y hH31 rfl rfl (yv_assign rfl) ?_
            refine ops_nil ?_
            refine thn_n ?_
            refine seq ?_
            have hEb := S.ready_bd (B := B) (T := U) (F := F) (x := (k : Int)) (c := 8000) (by omega) (fun q e he => by have := hD.bd q e he; have := hD.len; omega)
            have hmk := hj.at2 (w := (k : Int)) (by omega) (by omega)
            have htk := hD.tot
            have hlk := hD.len
            refine region ?_
            refine ops_y hH31 rfl rfl (yv_move rfl) ?_
            refine ops_y hH31 rfl rfl (yv_move rfl) ?_
            refine op_fnV rfl rfl rfl hH31 (c94 ⟨Heap.bxw hH31 (n := 3) rfl, (Heap.mapw hH31 (n := 4) rfl)⟩ (hB.now hH31 (n := 6) rfl) (hT.now hH31 (n := 6) rfl) (hF.now hH31 (n := 6) rfl) hO (by omega) (by omega) (by omega) (fun k e he => hD.hE hj k e he)) (fun w33 hH34 => ?_)
            refine ops_y hH34 rfl rfl (yv_move rfl) ?_
            refine ops_y hH34 rfl rfl (yv_extract rfl rfl) ?_
            refine ops_y hH34 rfl rfl (yv_extract rfl rfl) ?_
            refine ops_y hH34 rfl rfl (yv_assign rfl) ?_
            refine ops_y hH34 rfl rfl (yv_assign rfl) ?_
            refine ops_nil ?_
            refine thn_n ?_
            refine seq ?_
            refine seq ?_
            refine region ?_
            refine ops_y hH34 rfl rfl (yv_move rfl) ?_
            refine ops_y hH34 rfl rfl (yv_move rfl) ?_
            refine ops_y hH34 rfl rfl (yv_build (v := (.agg #[(.int .i64 (k : Int))])) (us := [(0, (.int .i64 (k : Int)))]) (fun a ha => by simp [ha.ev (show ev _ (.tmp 43) = some _ from rfl)]) (fun w => by kernel_rfl)) ?_
            refine ops_y hH34 rfl rfl (yv_lookup (k := (k : Int)) T.m134 rfl rfl (fun _ hw => (Heap.mapw hw (n := 2) rfl))) ?_
            refine ops_y hH34 rfl rfl (yv_eql rfl rfl) ?_
            refine ops_y hH34 rfl rfl (yv_move rfl) ?_
            by_cases hc35 : ((find (k : Int) L3).getD 0) = 0
            · skip
              have hdone : (find (k : Int) L3).getD 0 = 0 := ‹_›
              refine guard_no rfl rfl (decide_eq_true hc35) rfl ?_
              refine guard_no rfl rfl (decide_eq_true hc35) rfl ?_
              refine ops_y hH34 rfl rfl (yv_pick_t rfl (decide_eq_true hc35) rfl) ?_
              refine ops_nil ?_
              refine thn_n ?_
              refine cond_t rfl rfl ?_
              refine exit ?_
              refine thn_x ?_
              refine blk_here ?_
              refine thn_n ?_
              refine region ?_
              refine ops_y hH34 rfl rfl (yv_add rfl rfl (by omega)) ?_
              refine ops_y hH34 rfl rfl (yv_move rfl) ?_
              refine ops_nil ?_
              refine lp_n (k + 1, E3, L3, a3, b3) (Sub.cons rfl (Sub.cons rfl (Sub.cons rfl (Sub.cons rfl (Sub.cons rfl (Sub.cons rfl (Sub.cons rfl (Sub.cons rfl (Sub.cons rfl (Sub.nil _)))))))))) ?_ ?_
              · exact ⟨hH34, by omega, hD, S.keep_on hU (Or.inl ‹_›)⟩
              · first | (dsimp only; omega) | (show _ < _; omega)
            · skip
              have hnd : ¬ (find (k : Int) L3).getD 0 = 0 := ‹_›
              refine guard_yes rfl rfl (decide_eq_false hc35) ?_
              refine ops_y hH34 rfl rfl (yv_move rfl) ?_
              refine guard_yes rfl rfl (decide_eq_false hc35) ?_
              refine ops_y hH34 rfl rfl (yv_not rfl) ?_
              refine ops_y hH34 rfl rfl (yv_pick_f rfl (decide_eq_false hc35) rfl) ?_
              refine ops_nil ?_
              refine thn_n ?_
              by_cases hc36 : (!((S.ready E3 B U F (k : Int)).2)) = true
              · skip
                have hnr : (S.ready E3 B U F (k : Int)).2 = false := by simpa using hc36
                refine cond_t rfl hc36 ?_
                refine exit ?_
                refine thn_x ?_
                refine blk_here ?_
                refine thn_n ?_
                refine region ?_
                refine ops_y hH34 rfl rfl (yv_add rfl rfl (by omega)) ?_
                refine ops_y hH34 rfl rfl (yv_move rfl) ?_
                refine ops_nil ?_
                refine lp_n (k + 1, E3, L3, a3, b3) (Sub.cons rfl (Sub.cons rfl (Sub.cons rfl (Sub.cons rfl (Sub.cons rfl (Sub.cons rfl (Sub.cons rfl (Sub.cons rfl (Sub.cons rfl (Sub.nil _)))))))))) ?_ ?_
                · exact ⟨hH34, by omega, hD, S.keep_on hU (Or.inr ‹_›)⟩
                · first | (dsimp only; omega) | (show _ < _; omega)
              · skip
                have hrd : (S.ready E3 B U F (k : Int)).2 = true := by simpa using (Bool.eq_false_iff.2 hc36)
                refine cond_f rfl (Bool.eq_false_iff.2 hc36) ?_
                refine skip ?_
                refine thn_n ?_
                refine seq ?_
                refine region ?_
                refine ops_y hH34 rfl rfl (yv_move rfl) ?_
                refine ops_y hH34 rfl rfl (yv_move rfl) ?_
                refine ops_y hH34 rfl rfl (yv_build (v := (.agg #[(.int .i64 (k : Int))])) (us := [(0, (.int .i64 (k : Int)))]) (fun a ha => by simp [ha.ev (show ev _ (.tmp 52) = some _ from rfl)]) (fun w => by kernel_rfl)) ?_
                refine op_delete (n := 2) (k := (k : Int)) T.m134 rfl rfl hH34 rfl (fun w37 hH38 => ?_)
                refine ops_nil ?_
                refine thn_n ?_
                refine seq ?_
                refine region_draw (fun w' => True) T.mixed (fun w39 hr40 => ?_)
                have hH41 := hH38.redrawn hr40
                refine any_takes [0, 1, 2, 4, 5, 6, 7, 8] (by kernel_rfl) trivial _ _ _ (by kernel_rfl) ?_
                refine qs_y rfl rfl (yv_move rfl) ?_
                refine qs_y rfl rfl (yv_nilck rfl) ?_
                refine qs_y rfl rfl (yv_field T.f103_1 rfl) ?_
                refine qs_y rfl rfl (yv_move rfl) ?_
                refine qs_y rfl rfl (yv_build (v := (.agg #[(.int .i64 (k : Int))])) (us := [(0, (.int .i64 (k : Int)))]) (fun a ha => by simp [ha.ev (show ev _ (.tmp 58) = some _ from rfl)]) (fun w => by kernel_rfl)) ?_
                refine qs_y rfl rfl (yv_move rfl) ?_
                refine qs_y rfl rfl (yv_move rfl) ?_
                refine qs_y rfl rfl (yv_move rfl) ?_
                refine qs_nil ?_
                refine any_all [3, 9] (by kernel_rfl) rfl ?_
                refine ⟨⟨_, rfl, ?_⟩, ⟨_, rfl, ?_⟩, trivial⟩
                · skip
                  refine ops_y hH41 rfl rfl (yv_load T.one101 rfl (fun _ hw => Heap.cellw hw (n := 3) rfl rfl)) ?_
                  refine ops_nil ?_
                  refine ⟨trivial, ?_⟩
                  refine any_all [9] (by kernel_rfl) rfl ?_
                  refine ⟨⟨_, rfl, ?_⟩, trivial⟩
                  · skip
                    refine op_fnV rfl rfl rfl hH41 (c59 (h0.now hH41 (n := 6) rfl) (by omega) (by omega) (by omega)) (fun w42 hH43 => ?_)
                    refine ops_nil ?_
                    refine ⟨trivial, ?_⟩
                    refine any_takes [10] (by kernel_rfl) trivial _ _ _ (by kernel_rfl) ?_
                    refine qs_y rfl rfl (yv_add rfl rfl (by omega)) ?_
                    refine qs_nil ?_
                    refine any_all [11] (by kernel_rfl) rfl ?_
                    refine ⟨⟨_, rfl, ?_⟩, trivial⟩
                    · skip
                      refine op_update (n := 4) (k := (k : Int)) (v := ((S.ready E3 B U F (k : Int)).1) + (S.at2 js (k : Int))) T.m101 rfl rfl rfl hH43 rfl (fun w44 hH45 => ?_)
                      refine ops_nil ?_
                      refine ⟨trivial, ?_⟩
                      refine any_done (by kernel_rfl) ?_
                      refine thn_n ?_
                      by_cases hc46 : (k : Int) % 2 = 0
                      · skip
                        have hpar : (k : Int) % 2 = 0 := ‹_›
                        have hplay := hD.play hj (w := k) (by omega) hnd hrd (.inl ⟨rfl, rfl⟩)
                        refine region_draw (fun w' => True) T.mixed (fun w47 hr48 => ?_)
                        have hH49 := hH45.redrawn hr48
                        refine any_takes [0, 1, 2, 4, 5] (by kernel_rfl) trivial _ _ _ (by kernel_rfl) ?_
                        refine qs_y rfl rfl (yv_move rfl) ?_
                        refine qs_y rfl rfl (yv_cast (show (k : Int) % 2 = 0 from hpar) (yv_rem rfl rfl (by omega) (by omega))) ?_
                        refine qs_y rfl rfl (yv_indexA T.arr85 rfl rfl (by omega)) ?_
                        refine qs_y rfl rfl (yv_move rfl) ?_
                        refine qs_y rfl rfl (yv_move rfl) ?_
                        refine qs_nil ?_
                        refine any_all [3, 6] (by kernel_rfl) rfl ?_
                        refine ⟨⟨_, rfl, ?_⟩, ⟨_, rfl, ?_⟩, trivial⟩
                        · skip
                          refine ops_y hH49 rfl rfl (yv_load T.one2 rfl (fun _ hw => Heap.cellw hw (n := 1) rfl rfl)) ?_
                          refine ops_nil ?_
                          refine ⟨trivial, ?_⟩
                          refine any_all [6] (by kernel_rfl) rfl ?_
                          refine ⟨⟨_, rfl, ?_⟩, trivial⟩
                          · skip
                            refine op_fnV rfl rfl rfl hH49 (c59 (h0.now hH49 (n := 6) rfl) (by omega) (by omega) (by omega)) (fun w50 hH51 => ?_)
                            refine ops_nil ?_
                            refine ⟨trivial, ?_⟩
                            refine any_takes [7, 8] (by kernel_rfl) trivial _ _ _ (by kernel_rfl) ?_
                            refine qs_y rfl rfl (yv_add rfl rfl (by omega)) ?_
                            refine qs_y rfl rfl (yv_indexA T.arr85 rfl rfl (by omega)) ?_
                            refine qs_nil ?_
                            refine any_all [9] (by kernel_rfl) rfl ?_
                            refine ⟨⟨_, rfl, ?_⟩, trivial⟩
                            · skip
                              refine op_store (n := 1) (j := 0) (us := [(.int .i64 (a3 + (S.at2 js (k : Int))))]) rfl rfl hH51 rfl T.sz2 rfl rfl rfl (by rfl) (fun w52 hH53 => ?_)
                              refine ops_nil ?_
                              refine ⟨trivial, ?_⟩
                              refine any_done (by kernel_rfl) ?_
                              refine blk_n ?_
                              refine thn_n ?_
                              refine region ?_
                              refine ops_y hH53 rfl rfl (yv_add rfl rfl (by omega)) ?_
                              refine ops_y hH53 rfl rfl (yv_move rfl) ?_
                              refine ops_nil ?_
                              refine lp_n (k + 1, (upd (k : Int) (((S.ready E3 B U F (k : Int)).1) + (S.at2 js (k : Int))) E3), (del (k : Int) L3), a3 + (S.at2 js (k : Int)), b3) (Sub.cons rfl (Sub.cons rfl (Sub.cons rfl (Sub.cons rfl (Sub.cons rfl (Sub.cons rfl (Sub.cons rfl (Sub.cons rfl (Sub.cons rfl (Sub.nil _)))))))))) ?_ ?_
                              · exact ⟨hH53, by omega, hplay.1, .inr ⟨by have := hplay.2; have := hU.le; omega, by have := hU.le; omega⟩⟩
                              · first | (dsimp only; omega) | (show _ < _; omega)
                        · skip
                          refine op_fnV rfl rfl rfl hH49 (c59 (h0.now hH49 (n := 6) rfl) (by omega) (by omega) (by omega)) (fun w54 hH55 => ?_)
                          refine ops_nil ?_
                          refine ⟨trivial, ?_⟩
                          refine any_all [3] (by kernel_rfl) rfl ?_
                          refine ⟨⟨_, rfl, ?_⟩, trivial⟩
                          · skip
                            refine ops_y hH55 rfl rfl (yv_load T.one2 rfl (fun _ hw => Heap.cellw hw (n := 1) rfl rfl)) ?_
                            refine ops_nil ?_
                            refine ⟨trivial, ?_⟩
                            refine any_takes [7, 8] (by kernel_rfl) trivial _ _ _ (by kernel_rfl) ?_
                            refine qs_y rfl rfl (yv_add rfl rfl (by omega)) ?_
                            refine qs_y rfl rfl (yv_indexA T.arr85 rfl rfl (by omega)) ?_
                            refine qs_nil ?_
                            refine any_all [9] (by kernel_rfl) rfl ?_
                            refine ⟨⟨_, rfl, ?_⟩, trivial⟩
                            · skip
                              refine op_store (n := 1) (j := 0) (us := [(.int .i64 (a3 + (S.at2 js (k : Int))))]) rfl rfl hH55 rfl T.sz2 rfl rfl rfl (by rfl) (fun w56 hH57 => ?_)
                              refine ops_nil ?_
                              refine ⟨trivial, ?_⟩
                              refine any_done (by kernel_rfl) ?_
                              refine blk_n ?_
                              refine thn_n ?_
                              refine region ?_
                              refine ops_y hH57 rfl rfl (yv_add rfl rfl (by omega)) ?_
                              refine ops_y hH57 rfl rfl (yv_move rfl) ?_
                              refine ops_nil ?_
                              refine lp_n (k + 1, (upd (k : Int) (((S.ready E3 B U F (k : Int)).1) + (S.at2 js (k : Int))) E3), (del (k : Int) L3), a3 + (S.at2 js (k : Int)), b3) (Sub.cons rfl (Sub.cons rfl (Sub.cons rfl (Sub.cons rfl (Sub.cons rfl (Sub.cons rfl (Sub.cons rfl (Sub.cons rfl (Sub.cons rfl (Sub.nil _)))))))))) ?_ ?_
                              · exact ⟨hH57, by omega, hplay.1, .inr ⟨by have := hplay.2; have := hU.le; omega, by have := hU.le; omega⟩⟩
                              · first | (dsimp only; omega) | (show _ < _; omega)
                      · skip
                        have hodd : (k : Int) % 2 = 1 := by omega
                        have hplay := hD.play hj (w := k) (by omega) hnd hrd (.inr ⟨rfl, rfl⟩)
                        refine region_draw (fun w' => True) T.mixed (fun w58 hr59 => ?_)
                        have hH60 := hH45.redrawn hr59
                        refine any_takes [0, 1, 2, 4, 5] (by kernel_rfl) trivial _ _ _ (by kernel_rfl) ?_
                        refine qs_y rfl rfl (yv_move rfl) ?_
                        refine qs_y rfl rfl (yv_cast (show (k : Int) % 2 = 1 from hodd) (yv_rem rfl rfl (by omega) (by omega))) ?_
                        refine qs_y rfl rfl (yv_indexA T.arr85 rfl rfl (by omega)) ?_
                        refine qs_y rfl rfl (yv_move rfl) ?_
                        refine qs_y rfl rfl (yv_move rfl) ?_
                        refine qs_nil ?_
                        refine any_all [3, 6] (by kernel_rfl) rfl ?_
                        refine ⟨⟨_, rfl, ?_⟩, ⟨_, rfl, ?_⟩, trivial⟩
                        · skip
                          refine ops_y hH60 rfl rfl (yv_load T.one2 rfl (fun _ hw => Heap.cellw hw (n := 1) rfl rfl)) ?_
                          refine ops_nil ?_
                          refine ⟨trivial, ?_⟩
                          refine any_all [6] (by kernel_rfl) rfl ?_
                          refine ⟨⟨_, rfl, ?_⟩, trivial⟩
                          · skip
                            refine op_fnV rfl rfl rfl hH60 (c59 (h0.now hH60 (n := 6) rfl) (by omega) (by omega) (by omega)) (fun w61 hH62 => ?_)
                            refine ops_nil ?_
                            refine ⟨trivial, ?_⟩
                            refine any_takes [7, 8] (by kernel_rfl) trivial _ _ _ (by kernel_rfl) ?_
                            refine qs_y rfl rfl (yv_add rfl rfl (by omega)) ?_
                            refine qs_y rfl rfl (yv_indexA T.arr85 rfl rfl (by omega)) ?_
                            refine qs_nil ?_
                            refine any_all [9] (by kernel_rfl) rfl ?_
                            refine ⟨⟨_, rfl, ?_⟩, trivial⟩
                            · skip
                              refine op_store (n := 1) (j := 1) (us := [(.int .i64 (b3 + (S.at2 js (k : Int))))]) rfl rfl hH62 rfl T.sz2 rfl rfl rfl (by rfl) (fun w63 hH64 => ?_)
                              refine ops_nil ?_
                              refine ⟨trivial, ?_⟩
                              refine any_done (by kernel_rfl) ?_
                              refine blk_n ?_
                              refine thn_n ?_
                              refine region ?_
                              refine ops_y hH64 rfl rfl (yv_add rfl rfl (by omega)) ?_
                              refine ops_y hH64 rfl rfl (yv_move rfl) ?_
                              refine ops_nil ?_
                              refine lp_n (k + 1, (upd (k : Int) (((S.ready E3 B U F (k : Int)).1) + (S.at2 js (k : Int))) E3), (del (k : Int) L3), a3, b3 + (S.at2 js (k : Int))) (Sub.cons rfl (Sub.cons rfl (Sub.cons rfl (Sub.cons rfl (Sub.cons rfl (Sub.cons rfl (Sub.cons rfl (Sub.cons rfl (Sub.cons rfl (Sub.nil _)))))))))) ?_ ?_
                              · exact ⟨hH64, by omega, hplay.1, .inr ⟨by have := hplay.2; have := hU.le; omega, by have := hU.le; omega⟩⟩
                              · first | (dsimp only; omega) | (show _ < _; omega)
                        · skip
                          refine op_fnV rfl rfl rfl hH60 (c59 (h0.now hH60 (n := 6) rfl) (by omega) (by omega) (by omega)) (fun w65 hH66 => ?_)
                          refine ops_nil ?_
                          refine ⟨trivial, ?_⟩
                          refine any_all [3] (by kernel_rfl) rfl ?_
                          refine ⟨⟨_, rfl, ?_⟩, trivial⟩
                          · skip
                            refine ops_y hH66 rfl rfl (yv_load T.one2 rfl (fun _ hw => Heap.cellw hw (n := 1) rfl rfl)) ?_
                            refine ops_nil ?_
                            refine ⟨trivial, ?_⟩
                            refine any_takes [7, 8] (by kernel_rfl) trivial _ _ _ (by kernel_rfl) ?_
                            refine qs_y rfl rfl (yv_add rfl rfl (by omega)) ?_
                            refine qs_y rfl rfl (yv_indexA T.arr85 rfl rfl (by omega)) ?_
                            refine qs_nil ?_
                            refine any_all [9] (by kernel_rfl) rfl ?_
                            refine ⟨⟨_, rfl, ?_⟩, trivial⟩
                            · skip
                              refine op_store (n := 1) (j := 1) (us := [(.int .i64 (b3 + (S.at2 js (k : Int))))]) rfl rfl hH66 rfl T.sz2 rfl rfl rfl (by rfl) (fun w67 hH68 => ?_)
                              refine ops_nil ?_
                              refine ⟨trivial, ?_⟩
                              refine any_done (by kernel_rfl) ?_
                              refine blk_n ?_
                              refine thn_n ?_
                              refine region ?_
                              refine ops_y hH68 rfl rfl (yv_add rfl rfl (by omega)) ?_
                              refine ops_y hH68 rfl rfl (yv_move rfl) ?_
                              refine ops_nil ?_
                              refine lp_n (k + 1, (upd (k : Int) (((S.ready E3 B U F (k : Int)).1) + (S.at2 js (k : Int))) E3), (del (k : Int) L3), a3, b3 + (S.at2 js (k : Int))) (Sub.cons rfl (Sub.cons rfl (Sub.cons rfl (Sub.cons rfl (Sub.cons rfl (Sub.cons rfl (Sub.cons rfl (Sub.cons rfl (Sub.cons rfl (Sub.nil _)))))))))) ?_ ?_
                              · exact ⟨hH68, by omega, hplay.1, .inr ⟨by have := hplay.2; have := hU.le; omega, by have := hU.le; omega⟩⟩
                              · first | (dsimp only; omega) | (show _ < _; omega)
                · skip
                  refine op_fnV rfl rfl rfl hH41 (c59 (h0.now hH41 (n := 6) rfl) (by omega) (by omega) (by omega)) (fun w69 hH70 => ?_)
                  refine ops_nil ?_
                  refine ⟨trivial, ?_⟩
                  refine any_takes [10] (by kernel_rfl) trivial _ _ _ (by kernel_rfl) ?_
                  refine qs_y rfl rfl (yv_add rfl rfl (by omega)) ?_
                  refine qs_nil ?_
                  refine any_all [3] (by kernel_rfl) rfl ?_
                  refine ⟨⟨_, rfl, ?_⟩, trivial⟩
                  · skip
                    refine ops_y hH70 rfl rfl (yv_load T.one101 rfl (fun _ hw => Heap.cellw hw (n := 3) rfl rfl)) ?_
                    refine ops_nil ?_
                    refine ⟨trivial, ?_⟩
                    refine any_all [11] (by kernel_rfl) rfl ?_
                    refine ⟨⟨_, rfl, ?_⟩, trivial⟩
                    · skip
                      refine op_update (n := 4) (k := (k : Int)) (v := ((S.ready E3 B U F (k : Int)).1) + (S.at2 js (k : Int))) T.m101 rfl rfl rfl hH70 rfl (fun w71 hH72 => ?_)
                      refine ops_nil ?_
                      refine ⟨trivial, ?_⟩
                      refine any_done (by kernel_rfl) ?_
                      refine thn_n ?_
                      by_cases hc73 : (k : Int) % 2 = 0
                      · skip
                        have hpar : (k : Int) % 2 = 0 := ‹_›
                        have hplay := hD.play hj (w := k) (by omega) hnd hrd (.inl ⟨rfl, rfl⟩)
                        refine region_draw (fun w' => True) T.mixed (fun w74 hr75 => ?_)
                        have hH76 := hH72.redrawn hr75
                        refine any_takes [0, 1, 2, 4, 5] (by kernel_rfl) trivial _ _ _ (by kernel_rfl) ?_
                        refine qs_y rfl rfl (yv_move rfl) ?_
                        refine qs_y rfl rfl (yv_cast (show (k : Int) % 2 = 0 from hpar) (yv_rem rfl rfl (by omega) (by omega))) ?_
                        refine qs_y rfl rfl (yv_indexA T.arr85 rfl rfl (by omega)) ?_
                        refine qs_y rfl rfl (yv_move rfl) ?_
                        refine qs_y rfl rfl (yv_move rfl) ?_
                        refine qs_nil ?_
                        refine any_all [3, 6] (by kernel_rfl) rfl ?_
                        refine ⟨⟨_, rfl, ?_⟩, ⟨_, rfl, ?_⟩, trivial⟩
                        · skip
                          refine ops_y hH76 rfl rfl (yv_load T.one2 rfl (fun _ hw => Heap.cellw hw (n := 1) rfl rfl)) ?_
                          refine ops_nil ?_
                          refine ⟨trivial, ?_⟩
                          refine any_all [6] (by kernel_rfl) rfl ?_
                          refine ⟨⟨_, rfl, ?_⟩, trivial⟩
                          · skip
                            refine op_fnV rfl rfl rfl hH76 (c59 (h0.now hH76 (n := 6) rfl) (by omega) (by omega) (by omega)) (fun w77 hH78 => ?_)
                            refine ops_nil ?_
                            refine ⟨trivial, ?_⟩
                            refine any_takes [7, 8] (by kernel_rfl) trivial _ _ _ (by kernel_rfl) ?_
                            refine qs_y rfl rfl (yv_add rfl rfl (by omega)) ?_
                            refine qs_y rfl rfl (yv_indexA T.arr85 rfl rfl (by omega)) ?_
                            refine qs_nil ?_
                            refine any_all [9] (by kernel_rfl) rfl ?_
                            refine ⟨⟨_, rfl, ?_⟩, trivial⟩
                            · skip
                              refine op_store (n := 1) (j := 0) (us := [(.int .i64 (a3 + (S.at2 js (k : Int))))]) rfl rfl hH78 rfl T.sz2 rfl rfl rfl (by rfl) (fun w79 hH80 => ?_)
                              refine ops_nil ?_
                              refine ⟨trivial, ?_⟩
                              refine any_done (by kernel_rfl) ?_
                              refine blk_n ?_
                              refine thn_n ?_
                              refine region ?_
                              refine ops_y hH80 rfl rfl (yv_add rfl rfl (by omega)) ?_
                              refine ops_y hH80 rfl rfl (yv_move rfl) ?_
                              refine ops_nil ?_
                              refine lp_n (k + 1, (upd (k : Int) (((S.ready E3 B U F (k : Int)).1) + (S.at2 js (k : Int))) E3), (del (k : Int) L3), a3 + (S.at2 js (k : Int)), b3) (Sub.cons rfl (Sub.cons rfl (Sub.cons rfl (Sub.cons rfl (Sub.cons rfl (Sub.cons rfl (Sub.cons rfl (Sub.cons rfl (Sub.cons rfl (Sub.nil _)))))))))) ?_ ?_
                              · exact ⟨hH80, by omega, hplay.1, .inr ⟨by have := hplay.2; have := hU.le; omega, by have := hU.le; omega⟩⟩
                              · first | (dsimp only; omega) | (show _ < _; omega)
                        · skip
                          refine op_fnV rfl rfl rfl hH76 (c59 (h0.now hH76 (n := 6) rfl) (by omega) (by omega) (by omega)) (fun w81 hH82 => ?_)
                          refine ops_nil ?_
                          refine ⟨trivial, ?_⟩
                          refine any_all [3] (by kernel_rfl) rfl ?_
                          refine ⟨⟨_, rfl, ?_⟩, trivial⟩
                          · skip
                            refine ops_y hH82 rfl rfl (yv_load T.one2 rfl (fun _ hw => Heap.cellw hw (n := 1) rfl rfl)) ?_
                            refine ops_nil ?_
                            refine ⟨trivial, ?_⟩
                            refine any_takes [7, 8] (by kernel_rfl) trivial _ _ _ (by kernel_rfl) ?_
                            refine qs_y rfl rfl (yv_add rfl rfl (by omega)) ?_
                            refine qs_y rfl rfl (yv_indexA T.arr85 rfl rfl (by omega)) ?_
                            refine qs_nil ?_
                            refine any_all [9] (by kernel_rfl) rfl ?_
                            refine ⟨⟨_, rfl, ?_⟩, trivial⟩
                            · skip
                              refine op_store (n := 1) (j := 0) (us := [(.int .i64 (a3 + (S.at2 js (k : Int))))]) rfl rfl hH82 rfl T.sz2 rfl rfl rfl (by rfl) (fun w83 hH84 => ?_)
                              refine ops_nil ?_
                              refine ⟨trivial, ?_⟩
                              refine any_done (by kernel_rfl) ?_
                              refine blk_n ?_
                              refine thn_n ?_
                              refine region ?_
                              refine ops_y hH84 rfl rfl (yv_add rfl rfl (by omega)) ?_
                              refine ops_y hH84 rfl rfl (yv_move rfl) ?_
                              refine ops_nil ?_
                              refine lp_n (k + 1, (upd (k : Int) (((S.ready E3 B U F (k : Int)).1) + (S.at2 js (k : Int))) E3), (del (k : Int) L3), a3 + (S.at2 js (k : Int)), b3) (Sub.cons rfl (Sub.cons rfl (Sub.cons rfl (Sub.cons rfl (Sub.cons rfl (Sub.cons rfl (Sub.cons rfl (Sub.cons rfl (Sub.cons rfl (Sub.nil _)))))))))) ?_ ?_
                              · exact ⟨hH84, by omega, hplay.1, .inr ⟨by have := hplay.2; have := hU.le; omega, by have := hU.le; omega⟩⟩
                              · first | (dsimp only; omega) | (show _ < _; omega)
                      · skip
                        have hodd : (k : Int) % 2 = 1 := by omega
                        have hplay := hD.play hj (w := k) (by omega) hnd hrd (.inr ⟨rfl, rfl⟩)
                        refine region_draw (fun w' => True) T.mixed (fun w85 hr86 => ?_)
                        have hH87 := hH72.redrawn hr86
                        refine any_takes [0, 1, 2, 4, 5] (by kernel_rfl) trivial _ _ _ (by kernel_rfl) ?_
                        refine qs_y rfl rfl (yv_move rfl) ?_
                        refine qs_y rfl rfl (yv_cast (show (k : Int) % 2 = 1 from hodd) (yv_rem rfl rfl (by omega) (by omega))) ?_
                        refine qs_y rfl rfl (yv_indexA T.arr85 rfl rfl (by omega)) ?_
                        refine qs_y rfl rfl (yv_move rfl) ?_
                        refine qs_y rfl rfl (yv_move rfl) ?_
                        refine qs_nil ?_
                        refine any_all [3, 6] (by kernel_rfl) rfl ?_
                        refine ⟨⟨_, rfl, ?_⟩, ⟨_, rfl, ?_⟩, trivial⟩
                        · skip
                          refine ops_y hH87 rfl rfl (yv_load T.one2 rfl (fun _ hw => Heap.cellw hw (n := 1) rfl rfl)) ?_
                          refine ops_nil ?_
                          refine ⟨trivial, ?_⟩
                          refine any_all [6] (by kernel_rfl) rfl ?_
                          refine ⟨⟨_, rfl, ?_⟩, trivial⟩
                          · skip
                            refine op_fnV rfl rfl rfl hH87 (c59 (h0.now hH87 (n := 6) rfl) (by omega) (by omega) (by omega)) (fun w88 hH89 => ?_)
                            refine ops_nil ?_
                            refine ⟨trivial, ?_⟩
                            refine any_takes [7, 8] (by kernel_rfl) trivial _ _ _ (by kernel_rfl) ?_
                            refine qs_y rfl rfl (yv_add rfl rfl (by omega)) ?_
                            refine qs_y rfl rfl (yv_indexA T.arr85 rfl rfl (by omega)) ?_
                            refine qs_nil ?_
                            refine any_all [9] (by kernel_rfl) rfl ?_
                            refine ⟨⟨_, rfl, ?_⟩, trivial⟩
                            · skip
                              refine op_store (n := 1) (j := 1) (us := [(.int .i64 (b3 + (S.at2 js (k : Int))))]) rfl rfl hH89 rfl T.sz2 rfl rfl rfl (by rfl) (fun w90 hH91 => ?_)
                              refine ops_nil ?_
                              refine ⟨trivial, ?_⟩
                              refine any_done (by kernel_rfl) ?_
                              refine blk_n ?_
                              refine thn_n ?_
                              refine region ?_
                              refine ops_y hH91 rfl rfl (yv_add rfl rfl (by omega)) ?_
                              refine ops_y hH91 rfl rfl (yv_move rfl) ?_
                              refine ops_nil ?_
                              refine lp_n (k + 1, (upd (k : Int) (((S.ready E3 B U F (k : Int)).1) + (S.at2 js (k : Int))) E3), (del (k : Int) L3), a3, b3 + (S.at2 js (k : Int))) (Sub.cons rfl (Sub.cons rfl (Sub.cons rfl (Sub.cons rfl (Sub.cons rfl (Sub.cons rfl (Sub.cons rfl (Sub.cons rfl (Sub.cons rfl (Sub.nil _)))))))))) ?_ ?_
                              · exact ⟨hH91, by omega, hplay.1, .inr ⟨by have := hplay.2; have := hU.le; omega, by have := hU.le; omega⟩⟩
                              · first | (dsimp only; omega) | (show _ < _; omega)
                        · skip
                          refine op_fnV rfl rfl rfl hH87 (c59 (h0.now hH87 (n := 6) rfl) (by omega) (by omega) (by omega)) (fun w92 hH93 => ?_)
                          refine ops_nil ?_
                          refine ⟨trivial, ?_⟩
                          refine any_all [3] (by kernel_rfl) rfl ?_
                          refine ⟨⟨_, rfl, ?_⟩, trivial⟩
                          · skip
                            refine ops_y hH93 rfl rfl (yv_load T.one2 rfl (fun _ hw => Heap.cellw hw (n := 1) rfl rfl)) ?_
                            refine ops_nil ?_
                            refine ⟨trivial, ?_⟩
                            refine any_takes [7, 8] (by kernel_rfl) trivial _ _ _ (by kernel_rfl) ?_
                            refine qs_y rfl rfl (yv_add rfl rfl (by omega)) ?_
                            refine qs_y rfl rfl (yv_indexA T.arr85 rfl rfl (by omega)) ?_
                            refine qs_nil ?_
                            refine any_all [9] (by kernel_rfl) rfl ?_
                            refine ⟨⟨_, rfl, ?_⟩, trivial⟩
                            · skip
                              refine op_store (n := 1) (j := 1) (us := [(.int .i64 (b3 + (S.at2 js (k : Int))))]) rfl rfl hH93 rfl T.sz2 rfl rfl rfl (by rfl) (fun w94 hH95 => ?_)
                              refine ops_nil ?_
                              refine ⟨trivial, ?_⟩
                              refine any_done (by kernel_rfl) ?_
                              refine blk_n ?_
                              refine thn_n ?_
                              refine region ?_
                              refine ops_y hH95 rfl rfl (yv_add rfl rfl (by omega)) ?_
                              refine ops_y hH95 rfl rfl (yv_move rfl) ?_
                              refine ops_nil ?_
                              refine lp_n (k + 1, (upd (k : Int) (((S.ready E3 B U F (k : Int)).1) + (S.at2 js (k : Int))) E3), (del (k : Int) L3), a3, b3 + (S.at2 js (k : Int))) (Sub.cons rfl (Sub.cons rfl (Sub.cons rfl (Sub.cons rfl (Sub.cons rfl (Sub.cons rfl (Sub.cons rfl (Sub.cons rfl (Sub.cons rfl (Sub.nil _)))))))))) ?_ ?_
                              · exact ⟨hH95, by omega, hplay.1, .inr ⟨by have := hplay.2; have := hU.le; omega, by have := hU.le; omega⟩⟩
                              · first | (dsimp only; omega) | (show _ < _; omega)
          · skip
            refine cond_f rfl (decide_eq_false hc32) ?_
            refine exit ?_
            refine thn_x ?_
            refine lp_x ?_
            refine blk_here ?_
            refine thn_n ?_
            refine seq ?_
            refine region ?_
            refine ops_y hH31 rfl rfl (yv_loadA (cs := [(.int .i64 a), (.int .i64 b)]) T.agg85 rfl rfl (fun _ hw => Heap.cellsw hw (n := 0) rfl (k := 0) rfl)) ?_
            refine ops_y hH31 rfl rfl (yv_loadA (cs := [(.int .i64 a3), (.int .i64 b3)]) T.agg85 rfl rfl (fun _ hw => Heap.cellsw hw (n := 1) rfl (k := 0) rfl)) ?_
            refine ops_y hH31 rfl rfl (yv_eqA (a := [a, b]) (b := [a3, b3]) T.eqi85 rfl rfl rfl rfl) ?_
            refine ops_nil ?_
            refine thn_n ?_
            by_cases hc96 : [a, b] = [a3, b3]
            · skip
              have hsame : [a, b] = [a3, b3] := of_decide_eq_true (decide_eq_true hc96)
              refine cond_t rfl (decide_eq_true hc96) ?_
              refine seq ?_
              refine region ?_
              refine ops_y hH31 rfl rfl (yv_move rfl) ?_
              refine ops_y hH31 rfl rfl (yv_assign rfl) ?_
              refine ops_nil ?_
              refine thn_n ?_
              refine ret ?_
              refine blk_r ?_
              refine lp_r ?_
              refine blk_r ?_
              have hH97 := (hH31.sub (List.Sublist.cons _ (List.Sublist.cons _ (List.Sublist.cons _ (List.Sublist.cons_cons _ (List.Sublist.cons_cons _ (List.Sublist.cons _ (List.Sublist.refl _))))))))
              refine fin (hH97.front (n := 2) rfl) (fun w' hf => (res1 rfl (show RV _ _ _ (.tmp 4) _ from rfl))) (fun w' hf => ?_)
              exact ⟨_, _, _, rfl, ⟨Heap.bxw hf (n := 0) rfl, Heap.mapw hf (n := 1) rfl⟩, hD.stop hj (S.settled hU hsame (by omega))⟩
            · skip
              have hne : ¬ [a, b] = [a3, b3] := of_decide_eq_false (decide_eq_false hc96)
              refine cond_f rfl (decide_eq_false hc96) ?_
              refine skip ?_
              refine blk_n ?_
              have hH98 := (hH31.sub (List.Sublist.cons _ (List.Sublist.refl _)))
              refine lp_n (E3, L3, a3, b3) (Sub.cons rfl (Sub.cons rfl (Sub.cons rfl (Sub.cons rfl (Sub.cons rfl (Sub.cons rfl (Sub.nil _))))))) ?_ ?_
              · exact ⟨hH98, hD⟩
              · show _ < _; exact S.moved hU hne

end Go.Fip
