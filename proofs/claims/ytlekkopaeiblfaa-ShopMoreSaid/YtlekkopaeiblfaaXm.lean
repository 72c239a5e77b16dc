/- Walks, by program (wip/tools). -/
import Derived.Test.YtlekkopaeiblfaaXf
import Derived.Test.YtlekkopaeiblfaaFy
set_option linter.unusedVariables false
set_option linter.unusedSimpArgs false
set_option linter.unusedSectionVars false
set_option linter.unnecessarySimpa false
namespace Go.Fip
open Go.Proofs Go.RowKit

theorem S.two_sets {l : List S.Pr} {i : Nat} {x y z : Int} (h : i < l.length) : ((l.set (i : Int).toNat (x, y)).set (i : Int).toNat ((nth (l.set (i : Int).toNat (x, y)) (i : Int)).1, z)) = l.set i (x, z) := by
  rw [Int.toNat_natCast, nth_set_same h, List.set_set]

set_option maxHeartbeats 4000000 in
theorem c11 {v : Value} {js : List S.Pr} {a b c : Int} {w : World} (h0 : Rd encP 2 v js w) (ha : 0 ≤ a ∧ a ≤ 65535) (hb : 0 ≤ b ∧ b ≤ 65535) (hc : 0 ≤ c ∧ c ≤ 255)  :
    Fn Try.prog 11 [v, (.int .u16 a), (.int .u16 b), (.int .u8 c)].toArray w (fun u _ => u = .bool true) := by
  refine fn_of' (args := [v, (.int .u16 a), (.int .u16 b), (.int .u8 c)]) Try.func11 rfl (ent Try.func11 (by kernel_rfl) rfl) rfl rfl (fun hH => ?_)
  refine seq ?_
  refine region ?_
  refine ops_y hH rfl rfl (yv_assign rfl) ?_
  refine ops_nil ?_
  refine thn_n ?_
  refine seq ?_
  refine seq ?_
  by_cases hc1 : S.Jobs js
  · skip
    have hj : S.Jobs js := ‹_›
    have hl1 := hj.1
    have hl8 := hj.2.1
    have hc0 := S.checkJobs_iff.2 hj
    refine region ?_
    refine ops_y hH rfl rfl (yv_move rfl) ?_
    refine op_fnV rfl rfl rfl hH (c41c (h0.now hH (n := 0) rfl)) (fun w2 hH3 => ?_)
    refine ops_y hH3 rfl rfl (yv_castB (bnot_f (decide_eq_true hc1)) (yv_not rfl)) ?_
    refine ops_nil ?_
    refine thn_n ?_
    refine cond_f rfl rfl ?_
    refine skip ?_
    refine thn_n ?_
    refine seq ?_
    refine region ?_
    refine ops_y hH3 rfl rfl (yv_move rfl) ?_
    refine op_fn rfl rfl rfl hH3 (c42 (h0.now hH3 (n := 0) rfl) hj) (fun u6 w4 lo7 hi8 hH5 hv9 => ?_)
    obtain ⟨q10, p11, hu, ho13, hp14⟩ := hv9
    subst hu
    have hH12 := Heap.toOwAny hH5 (n := 0) rfl (fun w' h => by obtain ⟨_, ys, e, h, _⟩ := h; cases e; exact ⟨ys, h⟩) ho13
    refine ops_y hH12 rfl rfl (yv_move rfl) ?_
    refine ops_y hH12 rfl rfl (yv_extract rfl rfl) ?_
    refine ops_y hH12 rfl rfl (yv_extract rfl rfl) ?_
    refine ops_y hH12 rfl rfl (yv_extract rfl rfl) ?_
    refine ops_y hH12 rfl rfl (yv_assign rfl) ?_
    refine ops_y hH12 rfl rfl (yv_assign rfl) ?_
    refine ops_y hH12 rfl rfl (yv_assign rfl) ?_
    refine ops_nil ?_
    refine thn_n ?_
    refine seq ?_
    refine seq ?_
    refine region ?_
    refine ops_y hH12 rfl rfl (yv_move rfl) ?_
    refine ops_y hH12 rfl rfl (yv_not rfl) ?_
    refine ops_nil ?_
    refine thn_n ?_
    refine cond_f rfl rfl ?_
    refine skip ?_
    refine thn_n ?_
    refine seq ?_
    have hsd : 1 ≤ S.shortestOf js ∧ S.shortestOf js ≤ 4000 := S.shortTo_bd hj js.length (Nat.le_refl _)
    have hmk : S.okJob ((1 + a % 500), (1 + b % 500)) := ⟨by show 1 ≤ (1 + a % 500); omega, by show (1 + a % 500) ≤ 500; omega, by show 1 ≤ (1 + b % 500); omega, by show (1 + b % 500) ≤ 500; omega⟩
    refine region ?_
    refine ops_y hH12 rfl rfl (yv_move rfl) ?_
    refine ops_y hH12 rfl rfl (yv_conv Try.underlying69 Try.underlying2 rfl (wrap_i64 (by omega))) ?_
    refine ops_y hH12 rfl rfl (yv_rem rfl rfl (by omega) (by omega)) ?_
    refine ops_y hH12 rfl rfl (yv_add rfl rfl (by omega)) ?_
    refine ops_y hH12 rfl rfl (yv_move rfl) ?_
    refine ops_y hH12 rfl rfl (yv_conv Try.underlying69 Try.underlying2 rfl (wrap_i64 (by omega))) ?_
    refine ops_y hH12 rfl rfl (yv_rem rfl rfl (by omega) (by omega)) ?_
    refine ops_y hH12 rfl rfl (yv_add rfl rfl (by omega)) ?_
    refine ops_y hH12 rfl rfl (yv_build (v := (.agg #[(.int .i64 (1 + (a % 500))), (.int .i64 (1 + (b % 500)))])) (us := [(0, (.int .i64 (1 + (a % 500)))), (1, (.int .i64 (1 + (b % 500))))]) (fun a ha => by simp [ha.ev (show ev _ (.tmp 36) = some _ from rfl), ha.ev (show ev _ (.tmp 40) = some _ from rfl)]) (fun w => by kernel_rfl)) ?_
    refine op_alloc (z := (.agg #[(.int .i64 0), (.int .i64 0)])) (us := [(.int .i64 0), (.int .i64 0)]) (fun _ => by kernel_rfl) rfl rfl hH12 (fun b15 w16 hH17 => ?_)
    refine op_store (n := 0) (j := 0) (us := [(.int .i64 (1 + (a % 500))), (.int .i64 (1 + (b % 500)))]) rfl rfl hH17 rfl T.sz71 rfl rfl rfl (by rfl) (fun w18 hH19 => ?_)
    refine ops_nil ?_
    refine thn_n ?_
    refine seq ?_
    refine seq ?_
    refine region ?_
    refine ops_y hH19 rfl rfl (yv_move rfl) ?_
    refine ops_y hH19 rfl rfl (yv_len T.sl22 rfl (h0.now hH19 (n := 2) rfl).is) ?_
    refine ops_y hH19 rfl rfl (yv_lss rfl rfl) ?_
    refine ops_nil ?_
    refine thn_n ?_
    by_cases hc20 : (js.length : Int) < 8
    · skip
      refine cond_t rfl (decide_eq_true hc20) ?_
      refine cut (S := Unit) (fun _u => [(13, (.int .i64 (S.shortestOf (js ++ [((1 + a % 500), (1 + b % 500))])))), (15, (.bool true)), (0, v), (3, (.int .u8 c)), (8, (.bool false)), (9, (.int .i64 (S.shortestOf js))), (11, (.bool true)), (12, (.pointer (some ⟨b15, 0, none⟩)))]) (fun _u w1 => Heap [bx b15 71 [(.int .i64 (1 + (a % 500))), (.int .i64 (1 + (b % 500)))], ow lo7 hi8 73 2 encP q10 p11, base w] w1) ?_ ?_
      · skip
        have hjm : S.Jobs (js ++ [((1 + a % 500), (1 + b % 500))]) := S.jobs_snoc hj (by omega) hmk
        have hsn : S.shortestOf js ≤ S.shortestOf (js ++ [((1 + a % 500), (1 + b % 500))]) ∧ S.shortestOf (js ++ [((1 + a % 500), (1 + b % 500))]) ≤ S.shortestOf js + (1 + a % 500) + (1 + b % 500) := S.shortest_snoc hmk.1 hmk.2.2.1 hj
        refine region_draw (fun w' => Heap [bx b15 71 [(.int .i64 (1 + (a % 500))), (.int .i64 (1 + (b % 500)))], base w] w') T.mixed (fun w21 hr22 => ?_)
        have hH23 := hH19.redrawn hr22
        refine any_takes [1, 3] (by kernel_rfl) (hH23.sub (List.Sublist.cons_cons _ (List.Sublist.cons _ (List.Sublist.refl _)))) _ _ _ (by kernel_rfl) ?_
        refine qs_y rfl rfl (yv_move rfl) ?_
        refine qs_y rfl rfl (yv_loadA (cs := [(.int .i64 (1 + (a % 500))), (.int .i64 (1 + (b % 500)))]) T.agg71 rfl rfl (fun _ hw => Heap.cellsw hw (n := 0) rfl (k := 0) rfl)) ?_
        refine qs_nil ?_
        refine any_all [0, 4] (by kernel_rfl) rfl ?_
        refine ⟨⟨_, rfl, ?_⟩, ⟨_, rfl, ?_⟩, trivial⟩
        · skip
          refine op_lit (us := []) T.el22_encP ([] : List (Int × Int)) rfl (by decide) rfl (fun a ha => by simp) (fun w => by kernel_rfl) hH23 (fun u24 lo26 hi27 w25 hH28 => ?_)
          refine ops_nil ?_
          refine ⟨(hH28.sub (List.Sublist.cons _ (List.Sublist.cons_cons _ (List.Sublist.cons _ (List.Sublist.refl _))))), ?_⟩
          refine any_all [2, 4] (by kernel_rfl) rfl ?_
          refine ⟨⟨_, rfl, ?_⟩, ⟨_, rfl, ?_⟩, trivial⟩
          · skip
            refine op_append (n := 0) T.el22_encP rfl rfl rfl hH28 rfl (h0.now hH28 (n := 3) rfl) (by first | omega | (simp only [List.length_append, List.length_cons, List.length_nil]; omega)) (fun u29 lo31 hi32 w30 hH33 => ?_)
            refine ops_nil ?_
            refine ⟨(hH33.sub (List.Sublist.cons _ (List.Sublist.cons_cons _ (List.Sublist.cons _ (List.Sublist.refl _))))), ?_⟩
            refine any_all [4] (by kernel_rfl) rfl ?_
            refine ⟨⟨_, rfl, ?_⟩, trivial⟩
            · skip
              refine op_lit (us := [(0, (.agg #[(.int .i64 (1 + (a % 500))), (.int .i64 (1 + (b % 500)))]))]) T.el22_encP [(1 + (a % 500), 1 + (b % 500))] rfl (by decide) rfl (fun a ha => by simp [ha.ev (show ev _ (.tmp 49) = some _ from rfl)]) (fun w => by kernel_rfl) hH33 (fun u34 lo36 hi37 w35 hH38 => ?_)
              refine ops_nil ?_
              refine ⟨(hH38.sub (List.Sublist.cons _ (List.Sublist.cons _ (List.Sublist.cons_cons _ (List.Sublist.cons _ (List.Sublist.refl _)))))), ?_⟩
              refine any_all [5] (by kernel_rfl) rfl ?_
              refine ⟨⟨_, rfl, ?_⟩, trivial⟩
              · skip
                refine op_append (n := 1) T.el22_encP rfl rfl rfl hH38 rfl (Heap.rdw T.el22_encP hH38 (n := 0) rfl) (by first | omega | (simp only [List.length_append, List.length_cons, List.length_nil]; omega)) (fun u39 lo41 hi42 w40 hH43 => ?_)
                refine ops_nil ?_
                refine ⟨(hH43.sub (List.Sublist.cons _ (List.Sublist.cons _ (List.Sublist.cons_cons _ (List.Sublist.cons _ (List.Sublist.refl _)))))), ?_⟩
                refine any_all [6] (by kernel_rfl) rfl ?_
                refine ⟨⟨_, rfl, ?_⟩, trivial⟩
                · skip
                  refine op_fn rfl rfl rfl hH43 (c42 (Heap.rdw T.el22_encP hH43 (n := 1) rfl) hjm) (fun u46 w44 lo47 hi48 hH45 hv49 => ?_)
                  obtain ⟨q50, p51, hu, ho53, hp54⟩ := hv49
                  subst hu
                  have hH52 := Heap.toOwAny hH45 (n := 0) rfl (fun w' h => by obtain ⟨_, ys, e, h, _⟩ := h; cases e; exact ⟨ys, h⟩) ho53
                  refine ops_nil ?_
                  refine ⟨(hH52.sub (List.Sublist.cons _ (List.Sublist.cons _ (List.Sublist.cons _ (List.Sublist.cons_cons _ (List.Sublist.cons _ (List.Sublist.refl _))))))), ?_⟩
                  refine any_takes [7, 8, 9, 10, 11, 12, 13] (by kernel_rfl) (hH52.sub (List.Sublist.cons _ (List.Sublist.cons _ (List.Sublist.cons _ (List.Sublist.cons_cons _ (List.Sublist.cons _ (List.Sublist.refl _))))))) _ _ _ (by kernel_rfl) ?_
                  refine qs_y rfl rfl (yv_move rfl) ?_
                  refine qs_y rfl rfl (yv_extract rfl rfl) ?_
                  refine qs_y rfl rfl (yv_extract rfl rfl) ?_
                  refine qs_y rfl rfl (yv_extract rfl rfl) ?_
                  refine qs_y rfl rfl (yv_assign rfl) ?_
                  refine qs_y rfl rfl (yv_assign rfl) ?_
                  refine qs_y rfl rfl (yv_assign rfl) ?_
                  refine qs_nil ?_
                  refine any_done (by kernel_rfl) ?_
                  have hH55 := (hH52.sub (List.Sublist.cons _ (List.Sublist.cons _ (List.Sublist.cons _ (List.Sublist.refl _)))))
                  refine mid_n () (Sub.cons rfl (Sub.cons rfl (Sub.cons rfl (Sub.cons rfl (Sub.cons rfl (Sub.cons rfl (Sub.cons rfl (Sub.cons rfl (Sub.nil _))))))))) ?_
                  exact hH55
          · skip
            refine op_lit (us := [(0, (.agg #[(.int .i64 (1 + (a % 500))), (.int .i64 (1 + (b % 500)))]))]) T.el22_encP [(1 + (a % 500), 1 + (b % 500))] rfl (by decide) rfl (fun a ha => by simp [ha.ev (show ev _ (.tmp 49) = some _ from rfl)]) (fun w => by kernel_rfl) hH28 (fun u56 lo58 hi59 w57 hH60 => ?_)
            refine ops_nil ?_
            refine ⟨(hH60.sub (List.Sublist.cons _ (List.Sublist.cons _ (List.Sublist.cons_cons _ (List.Sublist.cons _ (List.Sublist.refl _)))))), ?_⟩
            refine any_all [2] (by kernel_rfl) rfl ?_
            refine ⟨⟨_, rfl, ?_⟩, trivial⟩
            · skip
              refine op_append (n := 1) T.el22_encP rfl rfl rfl hH60 rfl (h0.now hH60 (n := 4) rfl) (by first | omega | (simp only [List.length_append, List.length_cons, List.length_nil]; omega)) (fun u61 lo63 hi64 w62 hH65 => ?_)
              refine ops_nil ?_
              refine ⟨(hH65.sub (List.Sublist.cons _ (List.Sublist.cons _ (List.Sublist.cons_cons _ (List.Sublist.cons _ (List.Sublist.refl _)))))), ?_⟩
              refine any_all [5] (by kernel_rfl) rfl ?_
              refine ⟨⟨_, rfl, ?_⟩, trivial⟩
              · skip
                refine op_append (n := 1) T.el22_encP rfl rfl rfl hH65 rfl (Heap.rdw T.el22_encP hH65 (n := 0) rfl) (by first | omega | (simp only [List.length_append, List.length_cons, List.length_nil]; omega)) (fun u66 lo68 hi69 w67 hH70 => ?_)
                refine ops_nil ?_
                refine ⟨(hH70.sub (List.Sublist.cons _ (List.Sublist.cons _ (List.Sublist.cons_cons _ (List.Sublist.cons _ (List.Sublist.refl _)))))), ?_⟩
                refine any_all [6] (by kernel_rfl) rfl ?_
                refine ⟨⟨_, rfl, ?_⟩, trivial⟩
                · skip
                  refine op_fn rfl rfl rfl hH70 (c42 (Heap.rdw T.el22_encP hH70 (n := 1) rfl) hjm) (fun u73 w71 lo74 hi75 hH72 hv76 => ?_)
                  obtain ⟨q77, p78, hu, ho80, hp81⟩ := hv76
                  subst hu
                  have hH79 := Heap.toOwAny hH72 (n := 0) rfl (fun w' h => by obtain ⟨_, ys, e, h, _⟩ := h; cases e; exact ⟨ys, h⟩) ho80
                  refine ops_nil ?_
                  refine ⟨(hH79.sub (List.Sublist.cons _ (List.Sublist.cons _ (List.Sublist.cons _ (List.Sublist.cons_cons _ (List.Sublist.cons _ (List.Sublist.refl _))))))), ?_⟩
                  refine any_takes [7, 8, 9, 10, 11, 12, 13] (by kernel_rfl) (hH79.sub (List.Sublist.cons _ (List.Sublist.cons _ (List.Sublist.cons _ (List.Sublist.cons_cons _ (List.Sublist.cons _ (List.Sublist.refl _))))))) _ _ _ (by kernel_rfl) ?_
                  refine qs_y rfl rfl (yv_move rfl) ?_
                  refine qs_y rfl rfl (yv_extract rfl rfl) ?_
                  refine qs_y rfl rfl (yv_extract rfl rfl) ?_
                  refine qs_y rfl rfl (yv_extract rfl rfl) ?_
                  refine qs_y rfl rfl (yv_assign rfl) ?_
                  refine qs_y rfl rfl (yv_assign rfl) ?_
                  refine qs_y rfl rfl (yv_assign rfl) ?_
                  refine qs_nil ?_
                  refine any_done (by kernel_rfl) ?_
                  have hH82 := (hH79.sub (List.Sublist.cons _ (List.Sublist.cons _ (List.Sublist.cons _ (List.Sublist.refl _)))))
                  refine mid_n () (Sub.cons rfl (Sub.cons rfl (Sub.cons rfl (Sub.cons rfl (Sub.cons rfl (Sub.cons rfl (Sub.cons rfl (Sub.cons rfl (Sub.nil _))))))))) ?_
                  exact hH82
        · skip
          refine op_lit (us := [(0, (.agg #[(.int .i64 (1 + (a % 500))), (.int .i64 (1 + (b % 500)))]))]) T.el22_encP [(1 + (a % 500), 1 + (b % 500))] rfl (by decide) rfl (fun a ha => by simp [ha.ev (show ev _ (.tmp 49) = some _ from rfl)]) (fun w => by kernel_rfl) hH23 (fun u83 lo85 hi86 w84 hH87 => ?_)
          refine ops_nil ?_
          refine ⟨(hH87.sub (List.Sublist.cons _ (List.Sublist.cons_cons _ (List.Sublist.cons _ (List.Sublist.refl _))))), ?_⟩
          refine any_all [0] (by kernel_rfl) rfl ?_
          refine ⟨⟨_, rfl, ?_⟩, trivial⟩
          · skip
            refine op_lit (us := []) T.el22_encP ([] : List (Int × Int)) rfl (by decide) rfl (fun a ha => by simp) (fun w => by kernel_rfl) hH87 (fun u88 lo90 hi91 w89 hH92 => ?_)
            refine ops_nil ?_
            refine ⟨(hH92.sub (List.Sublist.cons _ (List.Sublist.cons _ (List.Sublist.cons_cons _ (List.Sublist.cons _ (List.Sublist.refl _)))))), ?_⟩
            refine any_all [2] (by kernel_rfl) rfl ?_
            refine ⟨⟨_, rfl, ?_⟩, trivial⟩
            · skip
              refine op_append (n := 0) T.el22_encP rfl rfl rfl hH92 rfl (h0.now hH92 (n := 4) rfl) (by first | omega | (simp only [List.length_append, List.length_cons, List.length_nil]; omega)) (fun u93 lo95 hi96 w94 hH97 => ?_)
              refine ops_nil ?_
              refine ⟨(hH97.sub (List.Sublist.cons _ (List.Sublist.cons _ (List.Sublist.cons_cons _ (List.Sublist.cons _ (List.Sublist.refl _)))))), ?_⟩
              refine any_all [5] (by kernel_rfl) rfl ?_
              refine ⟨⟨_, rfl, ?_⟩, trivial⟩
              · skip
                refine op_append (n := 0) T.el22_encP rfl rfl rfl hH97 rfl (Heap.rdw T.el22_encP hH97 (n := 1) rfl) (by first | omega | (simp only [List.length_append, List.length_cons, List.length_nil]; omega)) (fun u98 lo100 hi101 w99 hH102 => ?_)
                refine ops_nil ?_
                refine ⟨(hH102.sub (List.Sublist.cons _ (List.Sublist.cons _ (List.Sublist.cons_cons _ (List.Sublist.cons _ (List.Sublist.refl _)))))), ?_⟩
                refine any_all [6] (by kernel_rfl) rfl ?_
                refine ⟨⟨_, rfl, ?_⟩, trivial⟩
                · skip
                  refine op_fn rfl rfl rfl hH102 (c42 (Heap.rdw T.el22_encP hH102 (n := 0) rfl) hjm) (fun u105 w103 lo106 hi107 hH104 hv108 => ?_)
                  obtain ⟨q109, p110, hu, ho112, hp113⟩ := hv108
                  subst hu
                  have hH111 := Heap.toOwAny hH104 (n := 0) rfl (fun w' h => by obtain ⟨_, ys, e, h, _⟩ := h; cases e; exact ⟨ys, h⟩) ho112
                  refine ops_nil ?_
                  refine ⟨(hH111.sub (List.Sublist.cons _ (List.Sublist.cons _ (List.Sublist.cons _ (List.Sublist.cons_cons _ (List.Sublist.cons _ (List.Sublist.refl _))))))), ?_⟩
                  refine any_takes [7, 8, 9, 10, 11, 12, 13] (by kernel_rfl) (hH111.sub (List.Sublist.cons _ (List.Sublist.cons _ (List.Sublist.cons _ (List.Sublist.cons_cons _ (List.Sublist.cons _ (List.Sublist.refl _))))))) _ _ _ (by kernel_rfl) ?_
                  refine qs_y rfl rfl (yv_move rfl) ?_
                  refine qs_y rfl rfl (yv_extract rfl rfl) ?_
                  refine qs_y rfl rfl (yv_extract rfl rfl) ?_
                  refine qs_y rfl rfl (yv_extract rfl rfl) ?_
                  refine qs_y rfl rfl (yv_assign rfl) ?_
                  refine qs_y rfl rfl (yv_assign rfl) ?_
                  refine qs_y rfl rfl (yv_assign rfl) ?_
                  refine qs_nil ?_
                  refine any_done (by kernel_rfl) ?_
                  have hH114 := (hH111.sub (List.Sublist.cons _ (List.Sublist.cons _ (List.Sublist.cons _ (List.Sublist.refl _)))))
                  refine mid_n () (Sub.cons rfl (Sub.cons rfl (Sub.cons rfl (Sub.cons rfl (Sub.cons rfl (Sub.cons rfl (Sub.cons rfl (Sub.cons rfl (Sub.nil _))))))))) ?_
                  exact hH114
      · rintro _u w115 hH116
        show Holds _ _ _ _ _ [(13, (.int .i64 (S.shortestOf (js ++ [((1 + a % 500), (1 + b % 500))])))), (15, (.bool true)), (0, v), (3, (.int .u8 c)), (8, (.bool false)), (9, (.int .i64 (S.shortestOf js))), (11, (.bool true)), (12, (.pointer (some ⟨b15, 0, none⟩)))] _ _
        refine seq ?_
        have hsn : S.shortestOf js ≤ S.shortestOf (js ++ [((1 + a % 500), (1 + b % 500))]) ∧ S.shortestOf (js ++ [((1 + a % 500), (1 + b % 500))]) ≤ S.shortestOf js + (1 + a % 500) + (1 + b % 500) := S.shortest_snoc hmk.1 hmk.2.2.1 hj
        refine region ?_
        refine ops_y hH116 rfl rfl (yv_move rfl) ?_
        refine ops_y hH116 rfl rfl (yv_not rfl) ?_
        refine ops_y hH116 rfl rfl (yv_move rfl) ?_
        refine guard_yes rfl rfl rfl ?_
        refine ops_y hH116 rfl rfl (yv_move rfl) ?_
        refine guard_yes rfl rfl rfl ?_
        refine ops_y hH116 rfl rfl (yv_move rfl) ?_
        refine guard_yes rfl rfl rfl ?_
        refine ops_y hH116 rfl rfl (yv_lss rfl rfl) ?_
        refine ops_y hH116 rfl rfl (yv_pick_f rfl rfl rfl) ?_
        refine ops_y hH116 rfl rfl (yv_move rfl) ?_
        have hc117 : ¬ ((S.shortestOf (js ++ [((1 + a % 500), (1 + b % 500))])) < (S.shortestOf js)) := by omega
        refine guard_yes rfl rfl (decide_eq_false hc117) ?_
        refine ops_y hH116 rfl rfl (yv_move rfl) ?_
        refine guard_yes rfl rfl (decide_eq_false hc117) ?_
        refine ops_y hH116 rfl rfl (yv_move rfl) ?_
        refine guard_yes rfl rfl (decide_eq_false hc117) ?_
        refine ops_y hH116 rfl rfl (yv_field T.f71_0 rfl) ?_
        refine guard_yes rfl rfl (decide_eq_false hc117) ?_
        refine ops_y hH116 rfl rfl (yv_load T.one2 rfl (fun _ hw => Heap.cellw hw (n := 0) rfl rfl)) ?_
        refine guard_yes rfl rfl (decide_eq_false hc117) ?_
        refine ops_y hH116 rfl rfl (yv_add rfl rfl (by omega)) ?_
        refine guard_yes rfl rfl (decide_eq_false hc117) ?_
        refine ops_y hH116 rfl rfl (yv_field T.f71_1 rfl) ?_
        refine guard_yes rfl rfl (decide_eq_false hc117) ?_
        refine ops_y hH116 rfl rfl (yv_load T.one2 rfl (fun _ hw => Heap.cellw hw (n := 0) rfl rfl)) ?_
        refine guard_yes rfl rfl (decide_eq_false hc117) ?_
        refine ops_y hH116 rfl rfl (yv_add rfl rfl (by omega)) ?_
        refine guard_yes rfl rfl (decide_eq_false hc117) ?_
        refine ops_y hH116 rfl rfl (yv_gtr rfl rfl) ?_
        refine ops_y hH116 rfl rfl (yv_pick_f rfl (decide_eq_false hc117) rfl) ?_
        refine ops_nil ?_
        refine thn_n ?_
        have hc118 : ¬ ((((S.shortestOf js) + (1 + (a % 500))) + (1 + (b % 500))) < (S.shortestOf (js ++ [((1 + a % 500), (1 + b % 500))]))) := by omega
        refine cond_f rfl (decide_eq_false hc118) ?_
        refine skip ?_
        refine thn_n ?_
        refine seq ?_
        refine region ?_
        refine op_lit (us := []) T.el22_encP ([] : List (Int × Int)) rfl (by decide) rfl (fun a ha => by simp) (fun w => by kernel_rfl) hH116 (fun u119 lo121 hi122 w120 hH123 => ?_)
        refine ops_y hH123 rfl rfl (yv_move rfl) ?_
        refine op_append (n := 0) T.el22_encP rfl rfl rfl hH123 rfl (h0.now hH123 (n := 3) rfl) (by first | omega | (simp only [List.length_append, List.length_cons, List.length_nil]; omega)) (fun u124 lo126 hi127 w125 hH128 => ?_)
        refine ops_y hH128 rfl rfl (yv_assign rfl) ?_
        refine ops_nil ?_
        refine thn_n ?_
        refine seq ?_
        skip
        have hH129 := Heap.recast (n := 0) hH128 rfl (show _ = js from rfl)
        obtain ⟨ii, hii⟩ : ∃ ii : Nat, c % (js.length : Int) = (ii : Int) := ⟨(c % (js.length : Int)).toNat, by have := Int.emod_nonneg c (show (js.length : Int) ≠ 0 by omega); omega⟩
        have hil : ii < js.length := by have := Int.emod_lt_of_pos c (show 0 < (js.length : Int) by omega); omega
        have hni := hj.nth (i := (ii : Int)) (by omega) (by omega)
        unfold S.okJob at hni
        refine region ?_
        refine ops_y hH129 rfl rfl (yv_move rfl) ?_
        refine ops_y hH129 rfl rfl (yv_conv Try.underlying5 Try.underlying3 rfl (wrap_i64 (by omega))) ?_
        refine ops_y hH129 rfl rfl (yv_move rfl) ?_
        refine ops_y hH129 rfl rfl (yv_len T.sl22 rfl (Heap.rdw T.el22_encP hH129 (n := 0) rfl).is) ?_
        refine ops_y hH129 rfl rfl (yv_cast hii (yv_rem rfl rfl (by omega) (by omega))) ?_
        refine ops_y hH129 rfl rfl (yv_assign rfl) ?_
        refine ops_nil ?_
        refine thn_n ?_
        refine seq ?_
        refine region_drawY (fun w' => Heap [bx b15 71 [(.int .i64 (1 + (a % 500))), (.int .i64 (1 + (b % 500)))], base w] w') [] T.mixed (fun w130 hr131 => ?_)
        have hH132 := hH129.redrawn hr131
        refine any_takesT [0, 1, 2, 3, 4, 5, 6, 7, 9, 12, 13, 14, 15, 17] (by kernel_rfl)  _ _ _ (by kernel_rfl) ?_
        refine qs_y rfl rfl (yv_move rfl) ?_
        refine qs_y rfl rfl (yv_move rfl) ?_
        refine qs_y rfl rfl (yv_move rfl) ?_
        refine qs_y rfl rfl (yv_move rfl) ?_
        refine qs_y rfl rfl (yv_move rfl) ?_
        refine qs_y rfl rfl (yv_move rfl) ?_
        refine qs_y rfl rfl (yv_index T.sl22 rfl rfl (Heap.rdw T.el22_encP hH132 (n := 0) rfl).is (by omega)) ?_
        refine qs_y rfl rfl (yv_field T.f71_0 rfl) ?_
        refine qs_y rfl rfl (yv_field T.f71_0 rfl) ?_
        refine qs_y rfl rfl (yv_move rfl) ?_
        refine qs_y rfl rfl (yv_move rfl) ?_
        refine qs_y rfl rfl (yv_index T.sl22 rfl rfl (Heap.rdw T.el22_encP hH132 (n := 0) rfl).is (by omega)) ?_
        refine qs_y rfl rfl (yv_field T.f71_1 rfl) ?_
        refine qs_y rfl rfl (yv_field T.f71_1 rfl) ?_
        refine qs_nil ?_
        refine any_takesY [10, 18] (by kernel_rfl) (hH132.sub (List.Sublist.cons _ (List.Sublist.cons_cons _ (List.Sublist.cons _ (List.Sublist.refl _))))) _ _ _ (by kernel_rfl) ?_
        refine qs_y rfl rfl (yv_load T.one2 rfl (fun _ hw => Heap.cellw hw (n := 0) rfl rfl)) ?_
        refine qs_y rfl rfl (yv_load T.one2 rfl (fun _ hw => Heap.cellw hw (n := 0) rfl rfl)) ?_
        refine qs_nil ?_
        refine any_allY [8, 16] (by kernel_rfl) rfl ?_
        refine ⟨⟨_, rfl, ?_⟩, ⟨_, rfl, ?_⟩, trivial⟩
        · skip
          refine ops_y hH132 rfl rfl (yv_load T.one2 rfl (fun _ hw => Rd.at (Heap.rdw T.el22_encP hw (n := 0) rfl) (i := (ii : Int)) (by omega) (j := 0) rfl)) ?_
          refine ops_nil ?_
          refine ⟨fun _ _ => (hH132.sub (List.Sublist.cons _ (List.Sublist.cons_cons _ (List.Sublist.cons _ (List.Sublist.refl _))))), ?_⟩
          refine any_takesT [11] (by kernel_rfl)  _ _ _ (by kernel_rfl) ?_
          refine qs_y rfl rfl (yv_max rfl rfl) ?_
          refine qs_nil ?_
          refine any_allY [16] (by kernel_rfl) rfl ?_
          refine ⟨⟨_, rfl, ?_⟩, trivial⟩
          · skip
            refine ops_y hH132 rfl rfl (yv_load T.one2 rfl (fun _ hw => Rd.at (Heap.rdw T.el22_encP hw (n := 0) rfl) (i := (ii : Int)) (by omega) (j := 1) rfl)) ?_
            refine ops_nil ?_
            refine ⟨fun _ _ => (hH132.sub (List.Sublist.cons _ (List.Sublist.cons_cons _ (List.Sublist.cons _ (List.Sublist.refl _))))), ?_⟩
            refine any_takesT [19, 20, 21] (by kernel_rfl)  _ _ _ (by kernel_rfl) ?_
            refine qs_y rfl rfl (yv_max rfl rfl) ?_
            refine qs_y rfl rfl (yv_index T.sl22 rfl rfl (Heap.rdw T.el22_encP hH132 (n := 0) rfl).is (by omega)) ?_
            refine qs_y rfl rfl (yv_field T.f71_0 rfl) ?_
            refine qs_nil ?_
            refine any_allY [22] (by kernel_rfl) rfl ?_
            refine ⟨⟨_, rfl, ?_⟩, trivial⟩
            · skip
              refine op_setE (n := 0) (i := (ii : Int)) (k := 0) (us := [(.int .i64 (max ((nth js (ii : Int)).1) (1 + (a % 500))))]) (z := (max ((nth js (ii : Int)).1) (1 + (a % 500)), (nth js (ii : Int)).2)) T.el22_encP rfl rfl hH132 rfl (by omega) T.sz2 rfl rfl rfl (Nat.le_of_ble_eq_true rfl) (fun w133 hH134 => ?_)
              refine ops_nil ?_
              refine ⟨fun _ _ => (hH134.sub (List.Sublist.cons _ (List.Sublist.cons_cons _ (List.Sublist.cons _ (List.Sublist.refl _))))), ?_⟩
              refine any_takesT [23, 24] (by kernel_rfl)  _ _ _ (by kernel_rfl) ?_
              refine qs_y rfl rfl (yv_index T.sl22 rfl rfl (Heap.rdw T.el22_encP hH134 (n := 0) rfl).is (by rw [List.length_set]; omega)) ?_
              refine qs_y rfl rfl (yv_field T.f71_1 rfl) ?_
              refine qs_nil ?_
              refine any_allY [25] (by kernel_rfl) rfl ?_
              refine ⟨⟨_, rfl, ?_⟩, trivial⟩
              · skip
                refine op_setE (n := 0) (i := (ii : Int)) (k := 1) (us := [(.int .i64 (max ((nth js (ii : Int)).2) (1 + (b % 500))))]) (z := ((nth (js.set (ii : Int).toNat (max ((nth js (ii : Int)).1) (1 + (a % 500)), (nth js (ii : Int)).2)) (ii : Int)).1, max ((nth js (ii : Int)).2) (1 + (b % 500)))) T.el22_encP rfl rfl hH134 rfl (by rw [List.length_set]; omega) T.sz2 rfl rfl rfl (Nat.le_of_ble_eq_true rfl) (fun w135 hH136 => ?_)
                refine ops_nil ?_
                refine ⟨fun _ _ => (hH136.sub (List.Sublist.cons _ (List.Sublist.cons_cons _ (List.Sublist.cons _ (List.Sublist.refl _))))), ?_⟩
                refine any_doneY (by kernel_rfl) ?_
                refine thn_n ?_
                refine seq ?_
                skip
                have hH137 := Heap.recast (n := 0) hH136 rfl (show _ = (js.set ii ((max (nth js (ii : Int)).1 (1 + a % 500)), (max (nth js (ii : Int)).2 (1 + b % 500)))) from S.two_sets hil)
                have hx1 : (nth (js.set ii ((max (nth js (ii : Int)).1 (1 + a % 500)), (max (nth js (ii : Int)).2 (1 + b % 500)))) (ii : Int)).1 = (max (nth js (ii : Int)).1 (1 + a % 500)) := congrArg Prod.fst (nth_set_same hil)
                have hx2 : (nth (js.set ii ((max (nth js (ii : Int)).1 (1 + a % 500)), (max (nth js (ii : Int)).2 (1 + b % 500)))) (ii : Int)).2 = (max (nth js (ii : Int)).2 (1 + b % 500)) := congrArg Prod.snd (nth_set_same hil)
                have hxl : (js.set ii ((max (nth js (ii : Int)).1 (1 + a % 500)), (max (nth js (ii : Int)).2 (1 + b % 500)))).length = js.length := List.length_set
                have hjx : S.Jobs (js.set ii ((max (nth js (ii : Int)).1 (1 + a % 500)), (max (nth js (ii : Int)).2 (1 + b % 500)))) := S.jobs_set hj hil ⟨by show 1 ≤ (max (nth js (ii : Int)).1 (1 + a % 500)); omega, by show (max (nth js (ii : Int)).1 (1 + a % 500)) ≤ 500; omega, by show 1 ≤ (max (nth js (ii : Int)).2 (1 + b % 500)); omega, by show (max (nth js (ii : Int)).2 (1 + b % 500)) ≤ 500; omega⟩
                have hst : S.shortestOf js ≤ S.shortestOf (js.set ii ((max (nth js (ii : Int)).1 (1 + a % 500)), (max (nth js (ii : Int)).2 (1 + b % 500)))) ∧ S.shortestOf (js.set ii ((max (nth js (ii : Int)).1 (1 + a % 500)), (max (nth js (ii : Int)).2 (1 + b % 500)))) ≤ S.shortestOf js + ((max (nth js (ii : Int)).1 (1 + a % 500)) - (nth js (ii : Int)).1) + ((max (nth js (ii : Int)).2 (1 + b % 500)) - (nth js (ii : Int)).2) := S.shortest_set hil (by show _ ≤ (max (nth js (ii : Int)).1 (1 + a % 500)); omega) (by show _ ≤ (max (nth js (ii : Int)).2 (1 + b % 500)); omega)
                refine region_draw (fun w' => Heap [ow lo126 hi127 71 2 encP u124 (js.set ii ((max (nth js (ii : Int)).1 (1 + a % 500)), (max (nth js (ii : Int)).2 (1 + b % 500)))), bx b15 71 [(.int .i64 (1 + (a % 500))), (.int .i64 (1 + (b % 500)))], ow lo7 hi8 73 2 encP q10 p11, base w] w') T.mixed (fun w138 hr139 => ?_)
                have hH140 := hH137.redrawn hr139
                refine any_takes [0, 1, 2, 3, 4, 5, 6, 7, 8, 9, 10, 11, 12, 13, 14, 15, 16, 17, 18, 19, 20, 21, 22, 23] (by kernel_rfl) hH140 _ _ _ (by kernel_rfl) ?_
                refine qs_y rfl rfl (yv_move rfl) ?_
                refine qs_y rfl rfl (yv_move rfl) ?_
                refine qs_y rfl rfl (yv_index T.sl22 rfl rfl (Heap.rdw T.el22_encP hH140 (n := 0) rfl).is (by omega)) ?_
                refine qs_y rfl rfl (yv_field T.f71_0 rfl) ?_
                refine qs_y rfl rfl (yv_load T.one2 rfl (fun _ hw => Rd.at (Heap.rdw T.el22_encP hw (n := 0) rfl) (i := (ii : Int)) (by omega) (j := 0) rfl)) ?_
                refine qs_y rfl rfl (yv_move rfl) ?_
                refine qs_y rfl rfl (yv_move rfl) ?_
                refine qs_y rfl rfl (yv_index T.sl22 rfl rfl (h0.now hH140 (n := 3) rfl).is (by omega)) ?_
                refine qs_y rfl rfl (yv_field T.f71_0 rfl) ?_
                refine qs_y rfl rfl (yv_load T.one2 rfl (fun _ hw => Rd.at (h0.now hw (n := 3) rfl) (i := (ii : Int)) (by omega) (j := 0) rfl)) ?_
                refine qs_y rfl rfl (yv_sub rfl rfl (by omega)) ?_
                refine qs_y rfl rfl (yv_move rfl) ?_
                refine qs_y rfl rfl (yv_move rfl) ?_
                refine qs_y rfl rfl (yv_index T.sl22 rfl rfl (Heap.rdw T.el22_encP hH140 (n := 0) rfl).is (by omega)) ?_
                refine qs_y rfl rfl (yv_field T.f71_1 rfl) ?_
                refine qs_y rfl rfl (yv_load T.one2 rfl (fun _ hw => Rd.at (Heap.rdw T.el22_encP hw (n := 0) rfl) (i := (ii : Int)) (by omega) (j := 1) rfl)) ?_
                refine qs_y rfl rfl (yv_add rfl rfl (by omega)) ?_
                refine qs_y rfl rfl (yv_move rfl) ?_
                refine qs_y rfl rfl (yv_move rfl) ?_
                refine qs_y rfl rfl (yv_index T.sl22 rfl rfl (h0.now hH140 (n := 3) rfl).is (by omega)) ?_
                refine qs_y rfl rfl (yv_field T.f71_1 rfl) ?_
                refine qs_y rfl rfl (yv_load T.one2 rfl (fun _ hw => Rd.at (h0.now hw (n := 3) rfl) (i := (ii : Int)) (by omega) (j := 1) rfl)) ?_
                refine qs_y rfl rfl (yv_sub rfl rfl (by omega)) ?_
                refine qs_y rfl rfl (yv_assign rfl) ?_
                refine qs_nil ?_
                refine any_done (by kernel_rfl) ?_
                refine thn_n ?_
                refine seq ?_
                refine region ?_
                refine ops_y hH140 rfl rfl (yv_move rfl) ?_
                refine op_fn rfl rfl rfl hH140 (c42 (Heap.rdw T.el22_encP hH140 (n := 0) rfl) hjx) (fun u143 w141 lo144 hi145 hH142 hv146 => ?_)
                obtain ⟨q147, p148, hu, ho150, hp151⟩ := hv146
                subst hu
                have hH149 := Heap.toOwAny hH142 (n := 0) rfl (fun w' h => by obtain ⟨_, ys, e, h, _⟩ := h; cases e; exact ⟨ys, h⟩) ho150
                refine ops_y hH149 rfl rfl (yv_move rfl) ?_
                refine ops_y hH149 rfl rfl (yv_extract rfl rfl) ?_
                refine ops_y hH149 rfl rfl (yv_extract rfl rfl) ?_
                refine ops_y hH149 rfl rfl (yv_extract rfl rfl) ?_
                refine ops_y hH149 rfl rfl (yv_assign rfl) ?_
                refine ops_y hH149 rfl rfl (yv_assign rfl) ?_
                refine ops_y hH149 rfl rfl (yv_assign rfl) ?_
                refine ops_nil ?_
                refine thn_n ?_
                refine seq ?_
                refine region ?_
                refine ops_y hH149 rfl rfl (yv_move rfl) ?_
                refine ops_y hH149 rfl rfl (yv_move rfl) ?_
                refine guard_yes rfl rfl rfl ?_
                refine ops_y hH149 rfl rfl (yv_move rfl) ?_
                refine guard_yes rfl rfl rfl ?_
                refine ops_y hH149 rfl rfl (yv_move rfl) ?_
                refine guard_yes rfl rfl rfl ?_
                refine ops_y hH149 rfl rfl (yv_geq rfl rfl) ?_
                refine ops_y hH149 rfl rfl (yv_pick_t rfl rfl rfl) ?_
                refine ops_y hH149 rfl rfl (yv_move rfl) ?_
                have hc152 : (S.shortestOf js) ≤ (S.shortestOf (js.set ii ((max (nth js (ii : Int)).1 (1 + a % 500)), (max (nth js (ii : Int)).2 (1 + b % 500))))) := by omega
                refine guard_yes rfl rfl (decide_eq_true hc152) ?_
                refine ops_y hH149 rfl rfl (yv_move rfl) ?_
                refine guard_yes rfl rfl (decide_eq_true hc152) ?_
                refine ops_y hH149 rfl rfl (yv_move rfl) ?_
                refine guard_yes rfl rfl (decide_eq_true hc152) ?_
                refine ops_y hH149 rfl rfl (yv_move rfl) ?_
                refine guard_yes rfl rfl (decide_eq_true hc152) ?_
                refine ops_y hH149 rfl rfl (yv_add rfl rfl (by omega)) ?_
                refine guard_yes rfl rfl (decide_eq_true hc152) ?_
                refine ops_y hH149 rfl rfl (yv_leq rfl rfl) ?_
                refine ops_y hH149 rfl rfl (yv_pick_t rfl (decide_eq_true hc152) rfl) ?_
                refine ops_y hH149 rfl rfl (yv_move rfl) ?_
                have hc153 : (S.shortestOf (js.set ii ((max (nth js (ii : Int)).1 (1 + a % 500)), (max (nth js (ii : Int)).2 (1 + b % 500))))) ≤ ((S.shortestOf js) + (((((nth (js.set ii ((max (nth js (ii : Int)).1 (1 + a % 500)), (max (nth js (ii : Int)).2 (1 + b % 500)))) (ii : Int)).1) - ((nth js (ii : Int)).1)) + ((nth (js.set ii ((max (nth js (ii : Int)).1 (1 + a % 500)), (max (nth js (ii : Int)).2 (1 + b % 500)))) (ii : Int)).2)) - ((nth js (ii : Int)).2))) := by omega
                refine guard_yes rfl rfl (decide_eq_true hc153) ?_
                refine op_fnV rfl rfl rfl hH149 (c17) (fun w154 hH155 => ?_)
                refine ops_y hH155 rfl rfl (yv_pick_t rfl (decide_eq_true hc153) rfl) ?_
                refine ops_y hH155 rfl rfl (yv_assign rfl) ?_
                refine ops_nil ?_
                refine thn_n ?_
                refine ret ?_
                have hH156 := (hH155.sub (List.Sublist.cons _ (List.Sublist.cons _ (List.Sublist.cons _ (List.Sublist.cons _ (List.Sublist.refl _))))))
                refine fin hH156 (fun w' hf => (res1 rfl (show RV _ _ _ (.tmp 8) _ from rfl))) (fun w' hf => ?_)
                rfl
        · skip
          refine ops_y hH132 rfl rfl (yv_load T.one2 rfl (fun _ hw => Rd.at (Heap.rdw T.el22_encP hw (n := 0) rfl) (i := (ii : Int)) (by omega) (j := 1) rfl)) ?_
          refine ops_nil ?_
          refine ⟨fun _ _ => (hH132.sub (List.Sublist.cons _ (List.Sublist.cons_cons _ (List.Sublist.cons _ (List.Sublist.refl _))))), ?_⟩
          refine any_takesT [19] (by kernel_rfl)  _ _ _ (by kernel_rfl) ?_
          refine qs_y rfl rfl (yv_max rfl rfl) ?_
          refine qs_nil ?_
          refine any_allY [8] (by kernel_rfl) rfl ?_
          refine ⟨⟨_, rfl, ?_⟩, trivial⟩
          · skip
            refine ops_y hH132 rfl rfl (yv_load T.one2 rfl (fun _ hw => Rd.at (Heap.rdw T.el22_encP hw (n := 0) rfl) (i := (ii : Int)) (by omega) (j := 0) rfl)) ?_
            refine ops_nil ?_
            refine ⟨fun _ _ => (hH132.sub (List.Sublist.cons _ (List.Sublist.cons_cons _ (List.Sublist.cons _ (List.Sublist.refl _))))), ?_⟩
            refine any_takesT [11, 20, 21] (by kernel_rfl)  _ _ _ (by kernel_rfl) ?_
            refine qs_y rfl rfl (yv_max rfl rfl) ?_
            refine qs_y rfl rfl (yv_index T.sl22 rfl rfl (Heap.rdw T.el22_encP hH132 (n := 0) rfl).is (by omega)) ?_
            refine qs_y rfl rfl (yv_field T.f71_0 rfl) ?_
            refine qs_nil ?_
            refine any_allY [22] (by kernel_rfl) rfl ?_
            refine ⟨⟨_, rfl, ?_⟩, trivial⟩
            · skip
              refine op_setE (n := 0) (i := (ii : Int)) (k := 0) (us := [(.int .i64 (max ((nth js (ii : Int)).1) (1 + (a % 500))))]) (z := (max ((nth js (ii : Int)).1) (1 + (a % 500)), (nth js (ii : Int)).2)) T.el22_encP rfl rfl hH132 rfl (by omega) T.sz2 rfl rfl rfl (Nat.le_of_ble_eq_true rfl) (fun w157 hH158 => ?_)
              refine ops_nil ?_
              refine ⟨fun _ _ => (hH158.sub (List.Sublist.cons _ (List.Sublist.cons_cons _ (List.Sublist.cons _ (List.Sublist.refl _))))), ?_⟩
              refine any_takesT [23, 24] (by kernel_rfl)  _ _ _ (by kernel_rfl) ?_
              refine qs_y rfl rfl (yv_index T.sl22 rfl rfl (Heap.rdw T.el22_encP hH158 (n := 0) rfl).is (by rw [List.length_set]; omega)) ?_
              refine qs_y rfl rfl (yv_field T.f71_1 rfl) ?_
              refine qs_nil ?_
              refine any_allY [25] (by kernel_rfl) rfl ?_
              refine ⟨⟨_, rfl, ?_⟩, trivial⟩
              · skip
                refine op_setE (n := 0) (i := (ii : Int)) (k := 1) (us := [(.int .i64 (max ((nth js (ii : Int)).2) (1 + (b % 500))))]) (z := ((nth (js.set (ii : Int).toNat (max ((nth js (ii : Int)).1) (1 + (a % 500)), (nth js (ii : Int)).2)) (ii : Int)).1, max ((nth js (ii : Int)).2) (1 + (b % 500)))) T.el22_encP rfl rfl hH158 rfl (by rw [List.length_set]; omega) T.sz2 rfl rfl rfl (Nat.le_of_ble_eq_true rfl) (fun w159 hH160 => ?_)
                refine ops_nil ?_
                refine ⟨fun _ _ => (hH160.sub (List.Sublist.cons _ (List.Sublist.cons_cons _ (List.Sublist.cons _ (List.Sublist.refl _))))), ?_⟩
                refine any_doneY (by kernel_rfl) ?_
                refine thn_n ?_
                refine seq ?_
                skip
                have hH161 := Heap.recast (n := 0) hH160 rfl (show _ = (js.set ii ((max (nth js (ii : Int)).1 (1 + a % 500)), (max (nth js (ii : Int)).2 (1 + b % 500)))) from S.two_sets hil)
                have hx1 : (nth (js.set ii ((max (nth js (ii : Int)).1 (1 + a % 500)), (max (nth js (ii : Int)).2 (1 + b % 500)))) (ii : Int)).1 = (max (nth js (ii : Int)).1 (1 + a % 500)) := congrArg Prod.fst (nth_set_same hil)
                have hx2 : (nth (js.set ii ((max (nth js (ii : Int)).1 (1 + a % 500)), (max (nth js (ii : Int)).2 (1 + b % 500)))) (ii : Int)).2 = (max (nth js (ii : Int)).2 (1 + b % 500)) := congrArg Prod.snd (nth_set_same hil)
                have hxl : (js.set ii ((max (nth js (ii : Int)).1 (1 + a % 500)), (max (nth js (ii : Int)).2 (1 + b % 500)))).length = js.length := List.length_set
                have hjx : S.Jobs (js.set ii ((max (nth js (ii : Int)).1 (1 + a % 500)), (max (nth js (ii : Int)).2 (1 + b % 500)))) := S.jobs_set hj hil ⟨by show 1 ≤ (max (nth js (ii : Int)).1 (1 + a % 500)); omega, by show (max (nth js (ii : Int)).1 (1 + a % 500)) ≤ 500; omega, by show 1 ≤ (max (nth js (ii : Int)).2 (1 + b % 500)); omega, by show (max (nth js (ii : Int)).2 (1 + b % 500)) ≤ 500; omega⟩
                have hst : S.shortestOf js ≤ S.shortestOf (js.set ii ((max (nth js (ii : Int)).1 (1 + a % 500)), (max (nth js (ii : Int)).2 (1 + b % 500)))) ∧ S.shortestOf (js.set ii ((max (nth js (ii : Int)).1 (1 + a % 500)), (max (nth js (ii : Int)).2 (1 + b % 500)))) ≤ S.shortestOf js + ((max (nth js (ii : Int)).1 (1 + a % 500)) - (nth js (ii : Int)).1) + ((max (nth js (ii : Int)).2 (1 + b % 500)) - (nth js (ii : Int)).2) := S.shortest_set hil (by show _ ≤ (max (nth js (ii : Int)).1 (1 + a % 500)); omega) (by show _ ≤ (max (nth js (ii : Int)).2 (1 + b % 500)); omega)
                refine region_draw (fun w' => Heap [ow lo126 hi127 71 2 encP u124 (js.set ii ((max (nth js (ii : Int)).1 (1 + a % 500)), (max (nth js (ii : Int)).2 (1 + b % 500)))), bx b15 71 [(.int .i64 (1 + (a % 500))), (.int .i64 (1 + (b % 500)))], ow lo7 hi8 73 2 encP q10 p11, base w] w') T.mixed (fun w162 hr163 => ?_)
                have hH164 := hH161.redrawn hr163
                refine any_takes [0, 1, 2, 3, 4, 5, 6, 7, 8, 9, 10, 11, 12, 13, 14, 15, 16, 17, 18, 19, 20, 21, 22, 23] (by kernel_rfl) hH164 _ _ _ (by kernel_rfl) ?_
                refine qs_y rfl rfl (yv_move rfl) ?_
                refine qs_y rfl rfl (yv_move rfl) ?_
                refine qs_y rfl rfl (yv_index T.sl22 rfl rfl (Heap.rdw T.el22_encP hH164 (n := 0) rfl).is (by omega)) ?_
                refine qs_y rfl rfl (yv_field T.f71_0 rfl) ?_
                refine qs_y rfl rfl (yv_load T.one2 rfl (fun _ hw => Rd.at (Heap.rdw T.el22_encP hw (n := 0) rfl) (i := (ii : Int)) (by omega) (j := 0) rfl)) ?_
                refine qs_y rfl rfl (yv_move rfl) ?_
                refine qs_y rfl rfl (yv_move rfl) ?_
                refine qs_y rfl rfl (yv_index T.sl22 rfl rfl (h0.now hH164 (n := 3) rfl).is (by omega)) ?_
                refine qs_y rfl rfl (yv_field T.f71_0 rfl) ?_
                refine qs_y rfl rfl (yv_load T.one2 rfl (fun _ hw => Rd.at (h0.now hw (n := 3) rfl) (i := (ii : Int)) (by omega) (j := 0) rfl)) ?_
                refine qs_y rfl rfl (yv_sub rfl rfl (by omega)) ?_
                refine qs_y rfl rfl (yv_move rfl) ?_
                refine qs_y rfl rfl (yv_move rfl) ?_
                refine qs_y rfl rfl (yv_index T.sl22 rfl rfl (Heap.rdw T.el22_encP hH164 (n := 0) rfl).is (by omega)) ?_
                refine qs_y rfl rfl (yv_field T.f71_1 rfl) ?_
                refine qs_y rfl rfl (yv_load T.one2 rfl (fun _ hw => Rd.at (Heap.rdw T.el22_encP hw (n := 0) rfl) (i := (ii : Int)) (by omega) (j := 1) rfl)) ?_
                refine qs_y rfl rfl (yv_add rfl rfl (by omega)) ?_
                refine qs_y rfl rfl (yv_move rfl) ?_
                refine qs_y rfl rfl (yv_move rfl) ?_
                refine qs_y rfl rfl (yv_index T.sl22 rfl rfl (h0.now hH164 (n := 3) rfl).is (by omega)) ?_
                refine qs_y rfl rfl (yv_field T.f71_1 rfl) ?_
                refine qs_y rfl rfl (yv_load T.one2 rfl (fun _ hw => Rd.at (h0.now hw (n := 3) rfl) (i := (ii : Int)) (by omega) (j := 1) rfl)) ?_
                refine qs_y rfl rfl (yv_sub rfl rfl (by omega)) ?_
                refine qs_y rfl rfl (yv_assign rfl) ?_
                refine qs_nil ?_
                refine any_done (by kernel_rfl) ?_
                refine thn_n ?_
                refine seq ?_
                refine region ?_
                refine ops_y hH164 rfl rfl (yv_move rfl) ?_
                refine op_fn rfl rfl rfl hH164 (c42 (Heap.rdw T.el22_encP hH164 (n := 0) rfl) hjx) (fun u167 w165 lo168 hi169 hH166 hv170 => ?_)
                obtain ⟨q171, p172, hu, ho174, hp175⟩ := hv170
                subst hu
                have hH173 := Heap.toOwAny hH166 (n := 0) rfl (fun w' h => by obtain ⟨_, ys, e, h, _⟩ := h; cases e; exact ⟨ys, h⟩) ho174
                refine ops_y hH173 rfl rfl (yv_move rfl) ?_
                refine ops_y hH173 rfl rfl (yv_extract rfl rfl) ?_
                refine ops_y hH173 rfl rfl (yv_extract rfl rfl) ?_
                refine ops_y hH173 rfl rfl (yv_extract rfl rfl) ?_
                refine ops_y hH173 rfl rfl (yv_assign rfl) ?_
                refine ops_y hH173 rfl rfl (yv_assign rfl) ?_
                refine ops_y hH173 rfl rfl (yv_assign rfl) ?_
                refine ops_nil ?_
                refine thn_n ?_
                refine seq ?_
                refine region ?_
                refine ops_y hH173 rfl rfl (yv_move rfl) ?_
                refine ops_y hH173 rfl rfl (yv_move rfl) ?_
                refine guard_yes rfl rfl rfl ?_
                refine ops_y hH173 rfl rfl (yv_move rfl) ?_
                refine guard_yes rfl rfl rfl ?_
                refine ops_y hH173 rfl rfl (yv_move rfl) ?_
                refine guard_yes rfl rfl rfl ?_
                refine ops_y hH173 rfl rfl (yv_geq rfl rfl) ?_
                refine ops_y hH173 rfl rfl (yv_pick_t rfl rfl rfl) ?_
                refine ops_y hH173 rfl rfl (yv_move rfl) ?_
                have hc176 : (S.shortestOf js) ≤ (S.shortestOf (js.set ii ((max (nth js (ii : Int)).1 (1 + a % 500)), (max (nth js (ii : Int)).2 (1 + b % 500))))) := by omega
                refine guard_yes rfl rfl (decide_eq_true hc176) ?_
                refine ops_y hH173 rfl rfl (yv_move rfl) ?_
                refine guard_yes rfl rfl (decide_eq_true hc176) ?_
                refine ops_y hH173 rfl rfl (yv_move rfl) ?_
                refine guard_yes rfl rfl (decide_eq_true hc176) ?_
                refine ops_y hH173 rfl rfl (yv_move rfl) ?_
                refine guard_yes rfl rfl (decide_eq_true hc176) ?_
                refine ops_y hH173 rfl rfl (yv_add rfl rfl (by omega)) ?_
                refine guard_yes rfl rfl (decide_eq_true hc176) ?_
                refine ops_y hH173 rfl rfl (yv_leq rfl rfl) ?_
                refine ops_y hH173 rfl rfl (yv_pick_t rfl (decide_eq_true hc176) rfl) ?_
                refine ops_y hH173 rfl rfl (yv_move rfl) ?_
                have hc177 : (S.shortestOf (js.set ii ((max (nth js (ii : Int)).1 (1 + a % 500)), (max (nth js (ii : Int)).2 (1 + b % 500))))) ≤ ((S.shortestOf js) + (((((nth (js.set ii ((max (nth js (ii : Int)).1 (1 + a % 500)), (max (nth js (ii : Int)).2 (1 + b % 500)))) (ii : Int)).1) - ((nth js (ii : Int)).1)) + ((nth (js.set ii ((max (nth js (ii : Int)).1 (1 + a % 500)), (max (nth js (ii : Int)).2 (1 + b % 500)))) (ii : Int)).2)) - ((nth js (ii : Int)).2))) := by omega
                refine guard_yes rfl rfl (decide_eq_true hc177) ?_
                refine op_fnV rfl rfl rfl hH173 (c17) (fun w178 hH179 => ?_)
                refine ops_y hH179 rfl rfl (yv_pick_t rfl (decide_eq_true hc177) rfl) ?_
                refine ops_y hH179 rfl rfl (yv_assign rfl) ?_
                refine ops_nil ?_
                refine thn_n ?_
                refine ret ?_
                have hH180 := (hH179.sub (List.Sublist.cons _ (List.Sublist.cons _ (List.Sublist.cons _ (List.Sublist.cons _ (List.Sublist.refl _))))))
                refine fin hH180 (fun w' hf => (res1 rfl (show RV _ _ _ (.tmp 8) _ from rfl))) (fun w' hf => ?_)
                rfl
    · skip
      refine cond_f rfl (decide_eq_false hc20) ?_
      refine skip ?_
      refine thn_n ?_
      refine seq ?_
      refine region ?_
      refine op_lit (us := []) T.el22_encP ([] : List (Int × Int)) rfl (by decide) rfl (fun a ha => by simp) (fun w => by kernel_rfl) hH19 (fun u181 lo183 hi184 w182 hH185 => ?_)
      refine ops_y hH185 rfl rfl (yv_move rfl) ?_
      refine op_append (n := 0) T.el22_encP rfl rfl rfl hH185 rfl (h0.now hH185 (n := 3) rfl) (by first | omega | (simp only [List.length_append, List.length_cons, List.length_nil]; omega)) (fun u186 lo188 hi189 w187 hH190 => ?_)
      refine ops_y hH190 rfl rfl (yv_assign rfl) ?_
      refine ops_nil ?_
      refine thn_n ?_
      refine seq ?_
      skip
      have hH191 := Heap.recast (n := 0) hH190 rfl (show _ = js from rfl)
      obtain ⟨ii, hii⟩ : ∃ ii : Nat, c % (js.length : Int) = (ii : Int) := ⟨(c % (js.length : Int)).toNat, by have := Int.emod_nonneg c (show (js.length : Int) ≠ 0 by omega); omega⟩
      have hil : ii < js.length := by have := Int.emod_lt_of_pos c (show 0 < (js.length : Int) by omega); omega
      have hni := hj.nth (i := (ii : Int)) (by omega) (by omega)
      unfold S.okJob at hni
      refine region ?_
      refine ops_y hH191 rfl rfl (yv_move rfl) ?_
      refine ops_y hH191 rfl rfl (yv_conv Try.underlying5 Try.underlying3 rfl (wrap_i64 (by omega))) ?_
      refine ops_y hH191 rfl rfl (yv_move rfl) ?_
      refine ops_y hH191 rfl rfl (yv_len T.sl22 rfl (Heap.rdw T.el22_encP hH191 (n := 0) rfl).is) ?_
      refine ops_y hH191 rfl rfl (yv_cast hii (yv_rem rfl rfl (by omega) (by omega))) ?_
      refine ops_y hH191 rfl rfl (yv_assign rfl) ?_
      refine ops_nil ?_
      refine thn_n ?_
      refine seq ?_
      refine region_drawY (fun w' => Heap [bx b15 71 [(.int .i64 (1 + (a % 500))), (.int .i64 (1 + (b % 500)))], base w] w') [] T.mixed (fun w192 hr193 => ?_)
      have hH194 := hH191.redrawn hr193
      refine any_takesT [0, 1, 2, 3, 4, 5, 6, 7, 9, 12, 13, 14, 15, 17] (by kernel_rfl)  _ _ _ (by kernel_rfl) ?_
      refine qs_y rfl rfl (yv_move rfl) ?_
      refine qs_y rfl rfl (yv_move rfl) ?_
      refine qs_y rfl rfl (yv_move rfl) ?_
      refine qs_y rfl rfl (yv_move rfl) ?_
      refine qs_y rfl rfl (yv_move rfl) ?_
      refine qs_y rfl rfl (yv_move rfl) ?_
      refine qs_y rfl rfl (yv_index T.sl22 rfl rfl (Heap.rdw T.el22_encP hH194 (n := 0) rfl).is (by omega)) ?_
      refine qs_y rfl rfl (yv_field T.f71_0 rfl) ?_
      refine qs_y rfl rfl (yv_field T.f71_0 rfl) ?_
      refine qs_y rfl rfl (yv_move rfl) ?_
      refine qs_y rfl rfl (yv_move rfl) ?_
      refine qs_y rfl rfl (yv_index T.sl22 rfl rfl (Heap.rdw T.el22_encP hH194 (n := 0) rfl).is (by omega)) ?_
      refine qs_y rfl rfl (yv_field T.f71_1 rfl) ?_
      refine qs_y rfl rfl (yv_field T.f71_1 rfl) ?_
      refine qs_nil ?_
      refine any_takesY [10, 18] (by kernel_rfl) (hH194.sub (List.Sublist.cons _ (List.Sublist.cons_cons _ (List.Sublist.cons _ (List.Sublist.refl _))))) _ _ _ (by kernel_rfl) ?_
      refine qs_y rfl rfl (yv_load T.one2 rfl (fun _ hw => Heap.cellw hw (n := 0) rfl rfl)) ?_
      refine qs_y rfl rfl (yv_load T.one2 rfl (fun _ hw => Heap.cellw hw (n := 0) rfl rfl)) ?_
      refine qs_nil ?_
      refine any_allY [8, 16] (by kernel_rfl) rfl ?_
      refine ⟨⟨_, rfl, ?_⟩, ⟨_, rfl, ?_⟩, trivial⟩
      · skip
        refine ops_y hH194 rfl rfl (yv_load T.one2 rfl (fun _ hw => Rd.at (Heap.rdw T.el22_encP hw (n := 0) rfl) (i := (ii : Int)) (by omega) (j := 0) rfl)) ?_
        refine ops_nil ?_
        refine ⟨fun _ _ => (hH194.sub (List.Sublist.cons _ (List.Sublist.cons_cons _ (List.Sublist.cons _ (List.Sublist.refl _))))), ?_⟩
        refine any_takesT [11] (by kernel_rfl)  _ _ _ (by kernel_rfl) ?_
        refine qs_y rfl rfl (yv_max rfl rfl) ?_
        refine qs_nil ?_
        refine any_allY [16] (by kernel_rfl) rfl ?_
        refine ⟨⟨_, rfl, ?_⟩, trivial⟩
        · skip
          refine ops_y hH194 rfl rfl (yv_load T.one2 rfl (fun _ hw => Rd.at (Heap.rdw T.el22_encP hw (n := 0) rfl) (i := (ii : Int)) (by omega) (j := 1) rfl)) ?_
          refine ops_nil ?_
          refine ⟨fun _ _ => (hH194.sub (List.Sublist.cons _ (List.Sublist.cons_cons _ (List.Sublist.cons _ (List.Sublist.refl _))))), ?_⟩
          refine any_takesT [19, 20, 21] (by kernel_rfl)  _ _ _ (by kernel_rfl) ?_
          refine qs_y rfl rfl (yv_max rfl rfl) ?_
          refine qs_y rfl rfl (yv_index T.sl22 rfl rfl (Heap.rdw T.el22_encP hH194 (n := 0) rfl).is (by omega)) ?_
          refine qs_y rfl rfl (yv_field T.f71_0 rfl) ?_
          refine qs_nil ?_
          refine any_allY [22] (by kernel_rfl) rfl ?_
          refine ⟨⟨_, rfl, ?_⟩, trivial⟩
          · skip
            refine op_setE (n := 0) (i := (ii : Int)) (k := 0) (us := [(.int .i64 (max ((nth js (ii : Int)).1) (1 + (a % 500))))]) (z := (max ((nth js (ii : Int)).1) (1 + (a % 500)), (nth js (ii : Int)).2)) T.el22_encP rfl rfl hH194 rfl (by omega) T.sz2 rfl rfl rfl (Nat.le_of_ble_eq_true rfl) (fun w195 hH196 => ?_)
            refine ops_nil ?_
            refine ⟨fun _ _ => (hH196.sub (List.Sublist.cons _ (List.Sublist.cons_cons _ (List.Sublist.cons _ (List.Sublist.refl _))))), ?_⟩
            refine any_takesT [23, 24] (by kernel_rfl)  _ _ _ (by kernel_rfl) ?_
            refine qs_y rfl rfl (yv_index T.sl22 rfl rfl (Heap.rdw T.el22_encP hH196 (n := 0) rfl).is (by rw [List.length_set]; omega)) ?_
            refine qs_y rfl rfl (yv_field T.f71_1 rfl) ?_
            refine qs_nil ?_
            refine any_allY [25] (by kernel_rfl) rfl ?_
            refine ⟨⟨_, rfl, ?_⟩, trivial⟩
            · skip
              refine op_setE (n := 0) (i := (ii : Int)) (k := 1) (us := [(.int .i64 (max ((nth js (ii : Int)).2) (1 + (b % 500))))]) (z := ((nth (js.set (ii : Int).toNat (max ((nth js (ii : Int)).1) (1 + (a % 500)), (nth js (ii : Int)).2)) (ii : Int)).1, max ((nth js (ii : Int)).2) (1 + (b % 500)))) T.el22_encP rfl rfl hH196 rfl (by rw [List.length_set]; omega) T.sz2 rfl rfl rfl (Nat.le_of_ble_eq_true rfl) (fun w197 hH198 => ?_)
              refine ops_nil ?_
              refine ⟨fun _ _ => (hH198.sub (List.Sublist.cons _ (List.Sublist.cons_cons _ (List.Sublist.cons _ (List.Sublist.refl _))))), ?_⟩
              refine any_doneY (by kernel_rfl) ?_
              refine thn_n ?_
              refine seq ?_
              skip
              have hH199 := Heap.recast (n := 0) hH198 rfl (show _ = (js.set ii ((max (nth js (ii : Int)).1 (1 + a % 500)), (max (nth js (ii : Int)).2 (1 + b % 500)))) from S.two_sets hil)
              have hx1 : (nth (js.set ii ((max (nth js (ii : Int)).1 (1 + a % 500)), (max (nth js (ii : Int)).2 (1 + b % 500)))) (ii : Int)).1 = (max (nth js (ii : Int)).1 (1 + a % 500)) := congrArg Prod.fst (nth_set_same hil)
              have hx2 : (nth (js.set ii ((max (nth js (ii : Int)).1 (1 + a % 500)), (max (nth js (ii : Int)).2 (1 + b % 500)))) (ii : Int)).2 = (max (nth js (ii : Int)).2 (1 + b % 500)) := congrArg Prod.snd (nth_set_same hil)
              have hxl : (js.set ii ((max (nth js (ii : Int)).1 (1 + a % 500)), (max (nth js (ii : Int)).2 (1 + b % 500)))).length = js.length := List.length_set
              have hjx : S.Jobs (js.set ii ((max (nth js (ii : Int)).1 (1 + a % 500)), (max (nth js (ii : Int)).2 (1 + b % 500)))) := S.jobs_set hj hil ⟨by show 1 ≤ (max (nth js (ii : Int)).1 (1 + a % 500)); omega, by show (max (nth js (ii : Int)).1 (1 + a % 500)) ≤ 500; omega, by show 1 ≤ (max (nth js (ii : Int)).2 (1 + b % 500)); omega, by show (max (nth js (ii : Int)).2 (1 + b % 500)) ≤ 500; omega⟩
              have hst : S.shortestOf js ≤ S.shortestOf (js.set ii ((max (nth js (ii : Int)).1 (1 + a % 500)), (max (nth js (ii : Int)).2 (1 + b % 500)))) ∧ S.shortestOf (js.set ii ((max (nth js (ii : Int)).1 (1 + a % 500)), (max (nth js (ii : Int)).2 (1 + b % 500)))) ≤ S.shortestOf js + ((max (nth js (ii : Int)).1 (1 + a % 500)) - (nth js (ii : Int)).1) + ((max (nth js (ii : Int)).2 (1 + b % 500)) - (nth js (ii : Int)).2) := S.shortest_set hil (by show _ ≤ (max (nth js (ii : Int)).1 (1 + a % 500)); omega) (by show _ ≤ (max (nth js (ii : Int)).2 (1 + b % 500)); omega)
              refine region_draw (fun w' => Heap [ow lo188 hi189 71 2 encP u186 (js.set ii ((max (nth js (ii : Int)).1 (1 + a % 500)), (max (nth js (ii : Int)).2 (1 + b % 500)))), bx b15 71 [(.int .i64 (1 + (a % 500))), (.int .i64 (1 + (b % 500)))], ow lo7 hi8 73 2 encP q10 p11, base w] w') T.mixed (fun w200 hr201 => ?_)
              have hH202 := hH199.redrawn hr201
              refine any_takes [0, 1, 2, 3, 4, 5, 6, 7, 8, 9, 10, 11, 12, 13, 14, 15, 16, 17, 18, 19, 20, 21, 22, 23] (by kernel_rfl) hH202 _ _ _ (by kernel_rfl) ?_
              refine qs_y rfl rfl (yv_move rfl) ?_
              refine qs_y rfl rfl (yv_move rfl) ?_
              refine qs_y rfl rfl (yv_index T.sl22 rfl rfl (Heap.rdw T.el22_encP hH202 (n := 0) rfl).is (by omega)) ?_
              refine qs_y rfl rfl (yv_field T.f71_0 rfl) ?_
              refine qs_y rfl rfl (yv_load T.one2 rfl (fun _ hw => Rd.at (Heap.rdw T.el22_encP hw (n := 0) rfl) (i := (ii : Int)) (by omega) (j := 0) rfl)) ?_
              refine qs_y rfl rfl (yv_move rfl) ?_
              refine qs_y rfl rfl (yv_move rfl) ?_
              refine qs_y rfl rfl (yv_index T.sl22 rfl rfl (h0.now hH202 (n := 3) rfl).is (by omega)) ?_
              refine qs_y rfl rfl (yv_field T.f71_0 rfl) ?_
              refine qs_y rfl rfl (yv_load T.one2 rfl (fun _ hw => Rd.at (h0.now hw (n := 3) rfl) (i := (ii : Int)) (by omega) (j := 0) rfl)) ?_
              refine qs_y rfl rfl (yv_sub rfl rfl (by omega)) ?_
              refine qs_y rfl rfl (yv_move rfl) ?_
              refine qs_y rfl rfl (yv_move rfl) ?_
              refine qs_y rfl rfl (yv_index T.sl22 rfl rfl (Heap.rdw T.el22_encP hH202 (n := 0) rfl).is (by omega)) ?_
              refine qs_y rfl rfl (yv_field T.f71_1 rfl) ?_
              refine qs_y rfl rfl (yv_load T.one2 rfl (fun _ hw => Rd.at (Heap.rdw T.el22_encP hw (n := 0) rfl) (i := (ii : Int)) (by omega) (j := 1) rfl)) ?_
              refine qs_y rfl rfl (yv_add rfl rfl (by omega)) ?_
              refine qs_y rfl rfl (yv_move rfl) ?_
              refine qs_y rfl rfl (yv_move rfl) ?_
              refine qs_y rfl rfl (yv_index T.sl22 rfl rfl (h0.now hH202 (n := 3) rfl).is (by omega)) ?_
              refine qs_y rfl rfl (yv_field T.f71_1 rfl) ?_
              refine qs_y rfl rfl (yv_load T.one2 rfl (fun _ hw => Rd.at (h0.now hw (n := 3) rfl) (i := (ii : Int)) (by omega) (j := 1) rfl)) ?_
              refine qs_y rfl rfl (yv_sub rfl rfl (by omega)) ?_
              refine qs_y rfl rfl (yv_assign rfl) ?_
              refine qs_nil ?_
              refine any_done (by kernel_rfl) ?_
              refine thn_n ?_
              refine seq ?_
              refine region ?_
              refine ops_y hH202 rfl rfl (yv_move rfl) ?_
              refine op_fn rfl rfl rfl hH202 (c42 (Heap.rdw T.el22_encP hH202 (n := 0) rfl) hjx) (fun u205 w203 lo206 hi207 hH204 hv208 => ?_)
              obtain ⟨q209, p210, hu, ho212, hp213⟩ := hv208
              subst hu
              have hH211 := Heap.toOwAny hH204 (n := 0) rfl (fun w' h => by obtain ⟨_, ys, e, h, _⟩ := h; cases e; exact ⟨ys, h⟩) ho212
              refine ops_y hH211 rfl rfl (yv_move rfl) ?_
              refine ops_y hH211 rfl rfl (yv_extract rfl rfl) ?_
              refine ops_y hH211 rfl rfl (yv_extract rfl rfl) ?_
              refine ops_y hH211 rfl rfl (yv_extract rfl rfl) ?_
              refine ops_y hH211 rfl rfl (yv_assign rfl) ?_
              refine ops_y hH211 rfl rfl (yv_assign rfl) ?_
              refine ops_y hH211 rfl rfl (yv_assign rfl) ?_
              refine ops_nil ?_
              refine thn_n ?_
              refine seq ?_
              refine region ?_
              refine ops_y hH211 rfl rfl (yv_move rfl) ?_
              refine ops_y hH211 rfl rfl (yv_move rfl) ?_
              refine guard_yes rfl rfl rfl ?_
              refine ops_y hH211 rfl rfl (yv_move rfl) ?_
              refine guard_yes rfl rfl rfl ?_
              refine ops_y hH211 rfl rfl (yv_move rfl) ?_
              refine guard_yes rfl rfl rfl ?_
              refine ops_y hH211 rfl rfl (yv_geq rfl rfl) ?_
              refine ops_y hH211 rfl rfl (yv_pick_t rfl rfl rfl) ?_
              refine ops_y hH211 rfl rfl (yv_move rfl) ?_
              have hc214 : (S.shortestOf js) ≤ (S.shortestOf (js.set ii ((max (nth js (ii : Int)).1 (1 + a % 500)), (max (nth js (ii : Int)).2 (1 + b % 500))))) := by omega
              refine guard_yes rfl rfl (decide_eq_true hc214) ?_
              refine ops_y hH211 rfl rfl (yv_move rfl) ?_
              refine guard_yes rfl rfl (decide_eq_true hc214) ?_
              refine ops_y hH211 rfl rfl (yv_move rfl) ?_
              refine guard_yes rfl rfl (decide_eq_true hc214) ?_
              refine ops_y hH211 rfl rfl (yv_move rfl) ?_
              refine guard_yes rfl rfl (decide_eq_true hc214) ?_
              refine ops_y hH211 rfl rfl (yv_add rfl rfl (by omega)) ?_
              refine guard_yes rfl rfl (decide_eq_true hc214) ?_
              refine ops_y hH211 rfl rfl (yv_leq rfl rfl) ?_
              refine ops_y hH211 rfl rfl (yv_pick_t rfl (decide_eq_true hc214) rfl) ?_
              refine ops_y hH211 rfl rfl (yv_move rfl) ?_
              have hc215 : (S.shortestOf (js.set ii ((max (nth js (ii : Int)).1 (1 + a % 500)), (max (nth js (ii : Int)).2 (1 + b % 500))))) ≤ ((S.shortestOf js) + (((((nth (js.set ii ((max (nth js (ii : Int)).1 (1 + a % 500)), (max (nth js (ii : Int)).2 (1 + b % 500)))) (ii : Int)).1) - ((nth js (ii : Int)).1)) + ((nth (js.set ii ((max (nth js (ii : Int)).1 (1 + a % 500)), (max (nth js (ii : Int)).2 (1 + b % 500)))) (ii : Int)).2)) - ((nth js (ii : Int)).2))) := by omega
              refine guard_yes rfl rfl (decide_eq_true hc215) ?_
              refine op_fnV rfl rfl rfl hH211 (c17) (fun w216 hH217 => ?_)
              refine ops_y hH217 rfl rfl (yv_pick_t rfl (decide_eq_true hc215) rfl) ?_
              refine ops_y hH217 rfl rfl (yv_assign rfl) ?_
              refine ops_nil ?_
              refine thn_n ?_
              refine ret ?_
              have hH218 := (hH217.sub (List.Sublist.cons _ (List.Sublist.cons _ (List.Sublist.cons _ (List.Sublist.cons _ (List.Sublist.refl _))))))
              refine fin hH218 (fun w' hf => (res1 rfl (show RV _ _ _ (.tmp 8) _ from rfl))) (fun w' hf => ?_)
              rfl
      · skip
        refine ops_y hH194 rfl rfl (yv_load T.one2 rfl (fun _ hw => Rd.at (Heap.rdw T.el22_encP hw (n := 0) rfl) (i := (ii : Int)) (by omega) (j := 1) rfl)) ?_
        refine ops_nil ?_
        refine ⟨fun _ _ => (hH194.sub (List.Sublist.cons _ (List.Sublist.cons_cons _ (List.Sublist.cons _ (List.Sublist.refl _))))), ?_⟩
        refine any_takesT [19] (by kernel_rfl)  _ _ _ (by kernel_rfl) ?_
        refine qs_y rfl rfl (yv_max rfl rfl) ?_
        refine qs_nil ?_
        refine any_allY [8] (by kernel_rfl) rfl ?_
        refine ⟨⟨_, rfl, ?_⟩, trivial⟩
        · skip
          refine ops_y hH194 rfl rfl (yv_load T.one2 rfl (fun _ hw => Rd.at (Heap.rdw T.el22_encP hw (n := 0) rfl) (i := (ii : Int)) (by omega) (j := 0) rfl)) ?_
          refine ops_nil ?_
          refine ⟨fun _ _ => (hH194.sub (List.Sublist.cons _ (List.Sublist.cons_cons _ (List.Sublist.cons _ (List.Sublist.refl _))))), ?_⟩
          refine any_takesT [11, 20, 21] (by kernel_rfl)  _ _ _ (by kernel_rfl) ?_
          refine qs_y rfl rfl (yv_max rfl rfl) ?_
          refine qs_y rfl rfl (yv_index T.sl22 rfl rfl (Heap.rdw T.el22_encP hH194 (n := 0) rfl).is (by omega)) ?_
          refine qs_y rfl rfl (yv_field T.f71_0 rfl) ?_
          refine qs_nil ?_
          refine any_allY [22] (by kernel_rfl) rfl ?_
          refine ⟨⟨_, rfl, ?_⟩, trivial⟩
          · skip
            refine op_setE (n := 0) (i := (ii : Int)) (k := 0) (us := [(.int .i64 (max ((nth js (ii : Int)).1) (1 + (a % 500))))]) (z := (max ((nth js (ii : Int)).1) (1 + (a % 500)), (nth js (ii : Int)).2)) T.el22_encP rfl rfl hH194 rfl (by omega) T.sz2 rfl rfl rfl (Nat.le_of_ble_eq_true rfl) (fun w219 hH220 => ?_)
            refine ops_nil ?_
            refine ⟨fun _ _ => (hH220.sub (List.Sublist.cons _ (List.Sublist.cons_cons _ (List.Sublist.cons _ (List.Sublist.refl _))))), ?_⟩
            refine any_takesT [23, 24] (by kernel_rfl)  _ _ _ (by kernel_rfl) ?_
            refine qs_y rfl rfl (yv_index T.sl22 rfl rfl (Heap.rdw T.el22_encP hH220 (n := 0) rfl).is (by rw [List.length_set]; omega)) ?_
            refine qs_y rfl rfl (yv_field T.f71_1 rfl) ?_
            refine qs_nil ?_
            refine any_allY [25] (by kernel_rfl) rfl ?_
            refine ⟨⟨_, rfl, ?_⟩, trivial⟩
            · skip
              refine op_setE (n := 0) (i := (ii : Int)) (k := 1) (us := [(.int .i64 (max ((nth js (ii : Int)).2) (1 + (b % 500))))]) (z := ((nth (js.set (ii : Int).toNat (max ((nth js (ii : Int)).1) (1 + (a % 500)), (nth js (ii : Int)).2)) (ii : Int)).1, max ((nth js (ii : Int)).2) (1 + (b % 500)))) T.el22_encP rfl rfl hH220 rfl (by rw [List.length_set]; omega) T.sz2 rfl rfl rfl (Nat.le_of_ble_eq_true rfl) (fun w221 hH222 => ?_)
              refine ops_nil ?_
              refine ⟨fun _ _ => (hH222.sub (List.Sublist.cons _ (List.Sublist.cons_cons _ (List.Sublist.cons _ (List.Sublist.refl _))))), ?_⟩
              refine any_doneY (by kernel_rfl) ?_
              refine thn_n ?_
              refine seq ?_
              skip
              have hH223 := Heap.recast (n := 0) hH222 rfl (show _ = (js.set ii ((max (nth js (ii : Int)).1 (1 + a % 500)), (max (nth js (ii : Int)).2 (1 + b % 500)))) from S.two_sets hil)
              have hx1 : (nth (js.set ii ((max (nth js (ii : Int)).1 (1 + a % 500)), (max (nth js (ii : Int)).2 (1 + b % 500)))) (ii : Int)).1 = (max (nth js (ii : Int)).1 (1 + a % 500)) := congrArg Prod.fst (nth_set_same hil)
              have hx2 : (nth (js.set ii ((max (nth js (ii : Int)).1 (1 + a % 500)), (max (nth js (ii : Int)).2 (1 + b % 500)))) (ii : Int)).2 = (max (nth js (ii : Int)).2 (1 + b % 500)) := congrArg Prod.snd (nth_set_same hil)
              have hxl : (js.set ii ((max (nth js (ii : Int)).1 (1 + a % 500)), (max (nth js (ii : Int)).2 (1 + b % 500)))).length = js.length := List.length_set
              have hjx : S.Jobs (js.set ii ((max (nth js (ii : Int)).1 (1 + a % 500)), (max (nth js (ii : Int)).2 (1 + b % 500)))) := S.jobs_set hj hil ⟨by show 1 ≤ (max (nth js (ii : Int)).1 (1 + a % 500)); omega, by show (max (nth js (ii : Int)).1 (1 + a % 500)) ≤ 500; omega, by show 1 ≤ (max (nth js (ii : Int)).2 (1 + b % 500)); omega, by show (max (nth js (ii : Int)).2 (1 + b % 500)) ≤ 500; omega⟩
              have hst : S.shortestOf js ≤ S.shortestOf (js.set ii ((max (nth js (ii : Int)).1 (1 + a % 500)), (max (nth js (ii : Int)).2 (1 + b % 500)))) ∧ S.shortestOf (js.set ii ((max (nth js (ii : Int)).1 (1 + a % 500)), (max (nth js (ii : Int)).2 (1 + b % 500)))) ≤ S.shortestOf js + ((max (nth js (ii : Int)).1 (1 + a % 500)) - (nth js (ii : Int)).1) + ((max (nth js (ii : Int)).2 (1 + b % 500)) - (nth js (ii : Int)).2) := S.shortest_set hil (by show _ ≤ (max (nth js (ii : Int)).1 (1 + a % 500)); omega) (by show _ ≤ (max (nth js (ii : Int)).2 (1 + b % 500)); omega)
              refine region_draw (fun w' => Heap [ow lo188 hi189 71 2 encP u186 (js.set ii ((max (nth js (ii : Int)).1 (1 + a % 500)), (max (nth js (ii : Int)).2 (1 + b % 500)))), bx b15 71 [(.int .i64 (1 + (a % 500))), (.int .i64 (1 + (b % 500)))], ow lo7 hi8 73 2 encP q10 p11, base w] w') T.mixed (fun w224 hr225 => ?_)
              have hH226 := hH223.redrawn hr225
              refine any_takes [0, 1, 2, 3, 4, 5, 6, 7, 8, 9, 10, 11, 12, 13, 14, 15, 16, 17, 18, 19, 20, 21, 22, 23] (by kernel_rfl) hH226 _ _ _ (by kernel_rfl) ?_
              refine qs_y rfl rfl (yv_move rfl) ?_
              refine qs_y rfl rfl (yv_move rfl) ?_
              refine qs_y rfl rfl (yv_index T.sl22 rfl rfl (Heap.rdw T.el22_encP hH226 (n := 0) rfl).is (by omega)) ?_
              refine qs_y rfl rfl (yv_field T.f71_0 rfl) ?_
              refine qs_y rfl rfl (yv_load T.one2 rfl (fun _ hw => Rd.at (Heap.rdw T.el22_encP hw (n := 0) rfl) (i := (ii : Int)) (by omega) (j := 0) rfl)) ?_
              refine qs_y rfl rfl (yv_move rfl) ?_
              refine qs_y rfl rfl (yv_move rfl) ?_
              refine qs_y rfl rfl (yv_index T.sl22 rfl rfl (h0.now hH226 (n := 3) rfl).is (by omega)) ?_
              refine qs_y rfl rfl (yv_field T.f71_0 rfl) ?_
              refine qs_y rfl rfl (yv_load T.one2 rfl (fun _ hw => Rd.at (h0.now hw (n := 3) rfl) (i := (ii : Int)) (by omega) (j := 0) rfl)) ?_
              refine qs_y rfl rfl (yv_sub rfl rfl (by omega)) ?_
              refine qs_y rfl rfl (yv_move rfl) ?_
              refine qs_y rfl rfl (yv_move rfl) ?_
              refine qs_y rfl rfl (yv_index T.sl22 rfl rfl (Heap.rdw T.el22_encP hH226 (n := 0) rfl).is (by omega)) ?_
              refine qs_y rfl rfl (yv_field T.f71_1 rfl) ?_
              refine qs_y rfl rfl (yv_load T.one2 rfl (fun _ hw => Rd.at (Heap.rdw T.el22_encP hw (n := 0) rfl) (i := (ii : Int)) (by omega) (j := 1) rfl)) ?_
              refine qs_y rfl rfl (yv_add rfl rfl (by omega)) ?_
              refine qs_y rfl rfl (yv_move rfl) ?_
              refine qs_y rfl rfl (yv_move rfl) ?_
              refine qs_y rfl rfl (yv_index T.sl22 rfl rfl (h0.now hH226 (n := 3) rfl).is (by omega)) ?_
              refine qs_y rfl rfl (yv_field T.f71_1 rfl) ?_
              refine qs_y rfl rfl (yv_load T.one2 rfl (fun _ hw => Rd.at (h0.now hw (n := 3) rfl) (i := (ii : Int)) (by omega) (j := 1) rfl)) ?_
              refine qs_y rfl rfl (yv_sub rfl rfl (by omega)) ?_
              refine qs_y rfl rfl (yv_assign rfl) ?_
              refine qs_nil ?_
              refine any_done (by kernel_rfl) ?_
              refine thn_n ?_
              refine seq ?_
              refine region ?_
              refine ops_y hH226 rfl rfl (yv_move rfl) ?_
              refine op_fn rfl rfl rfl hH226 (c42 (Heap.rdw T.el22_encP hH226 (n := 0) rfl) hjx) (fun u229 w227 lo230 hi231 hH228 hv232 => ?_)
              obtain ⟨q233, p234, hu, ho236, hp237⟩ := hv232
              subst hu
              have hH235 := Heap.toOwAny hH228 (n := 0) rfl (fun w' h => by obtain ⟨_, ys, e, h, _⟩ := h; cases e; exact ⟨ys, h⟩) ho236
              refine ops_y hH235 rfl rfl (yv_move rfl) ?_
              refine ops_y hH235 rfl rfl (yv_extract rfl rfl) ?_
              refine ops_y hH235 rfl rfl (yv_extract rfl rfl) ?_
              refine ops_y hH235 rfl rfl (yv_extract rfl rfl) ?_
              refine ops_y hH235 rfl rfl (yv_assign rfl) ?_
              refine ops_y hH235 rfl rfl (yv_assign rfl) ?_
              refine ops_y hH235 rfl rfl (yv_assign rfl) ?_
              refine ops_nil ?_
              refine thn_n ?_
              refine seq ?_
              refine region ?_
              refine ops_y hH235 rfl rfl (yv_move rfl) ?_
              refine ops_y hH235 rfl rfl (yv_move rfl) ?_
              refine guard_yes rfl rfl rfl ?_
              refine ops_y hH235 rfl rfl (yv_move rfl) ?_
              refine guard_yes rfl rfl rfl ?_
              refine ops_y hH235 rfl rfl (yv_move rfl) ?_
              refine guard_yes rfl rfl rfl ?_
              refine ops_y hH235 rfl rfl (yv_geq rfl rfl) ?_
              refine ops_y hH235 rfl rfl (yv_pick_t rfl rfl rfl) ?_
              refine ops_y hH235 rfl rfl (yv_move rfl) ?_
              have hc238 : (S.shortestOf js) ≤ (S.shortestOf (js.set ii ((max (nth js (ii : Int)).1 (1 + a % 500)), (max (nth js (ii : Int)).2 (1 + b % 500))))) := by omega
              refine guard_yes rfl rfl (decide_eq_true hc238) ?_
              refine ops_y hH235 rfl rfl (yv_move rfl) ?_
              refine guard_yes rfl rfl (decide_eq_true hc238) ?_
              refine ops_y hH235 rfl rfl (yv_move rfl) ?_
              refine guard_yes rfl rfl (decide_eq_true hc238) ?_
              refine ops_y hH235 rfl rfl (yv_move rfl) ?_
              refine guard_yes rfl rfl (decide_eq_true hc238) ?_
              refine ops_y hH235 rfl rfl (yv_add rfl rfl (by omega)) ?_
              refine guard_yes rfl rfl (decide_eq_true hc238) ?_
              refine ops_y hH235 rfl rfl (yv_leq rfl rfl) ?_
              refine ops_y hH235 rfl rfl (yv_pick_t rfl (decide_eq_true hc238) rfl) ?_
              refine ops_y hH235 rfl rfl (yv_move rfl) ?_
              have hc239 : (S.shortestOf (js.set ii ((max (nth js (ii : Int)).1 (1 + a % 500)), (max (nth js (ii : Int)).2 (1 + b % 500))))) ≤ ((S.shortestOf js) + (((((nth (js.set ii ((max (nth js (ii : Int)).1 (1 + a % 500)), (max (nth js (ii : Int)).2 (1 + b % 500)))) (ii : Int)).1) - ((nth js (ii : Int)).1)) + ((nth (js.set ii ((max (nth js (ii : Int)).1 (1 + a % 500)), (max (nth js (ii : Int)).2 (1 + b % 500)))) (ii : Int)).2)) - ((nth js (ii : Int)).2))) := by omega
              refine guard_yes rfl rfl (decide_eq_true hc239) ?_
              refine op_fnV rfl rfl rfl hH235 (c17) (fun w240 hH241 => ?_)
              refine ops_y hH241 rfl rfl (yv_pick_t rfl (decide_eq_true hc239) rfl) ?_
              refine ops_y hH241 rfl rfl (yv_assign rfl) ?_
              refine ops_nil ?_
              refine thn_n ?_
              refine ret ?_
              have hH242 := (hH241.sub (List.Sublist.cons _ (List.Sublist.cons _ (List.Sublist.cons _ (List.Sublist.cons _ (List.Sublist.refl _))))))
              refine fin hH242 (fun w' hf => (res1 rfl (show RV _ _ _ (.tmp 8) _ from rfl))) (fun w' hf => ?_)
              rfl
  · skip
    have hnj : ¬ S.Jobs js := ‹_›
    refine region ?_
    refine ops_y hH rfl rfl (yv_move rfl) ?_
    refine op_fnV rfl rfl rfl hH (c41c (h0.now hH (n := 0) rfl)) (fun w243 hH244 => ?_)
    refine ops_y hH244 rfl rfl (yv_castB (bnot_t (decide_eq_false hc1)) (yv_not rfl)) ?_
    refine ops_nil ?_
    refine thn_n ?_
    refine cond_t rfl rfl ?_
    refine seq ?_
    refine region ?_
    refine op_fnV rfl rfl rfl hH244 (c17) (fun w245 hH246 => ?_)
    refine ops_y hH246 rfl rfl (yv_assign rfl) ?_
    refine ops_nil ?_
    refine thn_n ?_
    refine ret ?_
    refine thn_r ?_
    refine fin hH246 (fun w' hf => (res1 rfl (show RV _ _ _ (.tmp 8) _ from rfl))) (fun w' hf => ?_)
    rfl

end Go.Fip
