/- Walks, by program (wip/tools). -/
import Derived.Test.YtlekkopaeiblfaaWq
import Derived.Test.YtlekkopaeiblfaaSx
import Derived.Test.YtlekkopaeiblfaaFx
set_option linter.unusedVariables false
set_option linter.unusedSimpArgs false
set_option linter.unusedSectionVars false
set_option linter.unnecessarySimpa false
namespace Go.Fip
open Go.Proofs Go.RowKit

theorem c41c {v : Value} {js : List S.Pr} {w : World} (h0 : Rd encP 2 v js w)  :
    Fn Try.prog 41 [v].toArray w (fun u _ => u = .bool (decide (S.Jobs js))) := by
  refine fn_of' (args := [v]) Try.func41 rfl (ent Try.func41 (by kernel_rfl) rfl) rfl rfl (fun hH => ?_)
  refine seq ?_
  refine region ?_
  refine ops_y hH rfl rfl (yv_assign rfl) ?_
  refine ops_nil ?_
  refine thn_n ?_
  refine seq ?_
  refine region ?_
  refine ops_y hH rfl rfl (yv_move rfl) ?_
  refine op_fnV rfl rfl rfl hH (c16 (h0.now hH (n := 0) rfl)) (fun w1 hH2 => ?_)
  refine ops_y hH2 rfl rfl (yv_not rfl) ?_
  refine ops_y hH2 rfl rfl (yv_move rfl) ?_
  by_cases hc3 : 12 < (js.length : Int)
  · skip
    refine guard_no rfl rfl (not_decide_n hc3) rfl ?_
    refine guard_no rfl rfl (not_decide_n hc3) rfl ?_
    refine guard_no rfl rfl (not_decide_n hc3) rfl ?_
    refine ops_y hH2 rfl rfl (yv_pick_f rfl (not_decide_n hc3) rfl) ?_
    refine ops_y hH2 rfl rfl (yv_assign rfl) ?_
    refine ops_nil ?_
    refine thn_n ?_
    refine ret ?_
    refine fin hH2 (fun w' hf => (res1 rfl (show RV _ _ _ (.tmp 2) _ from rfl))) (fun w' hf => ?_)
    show Value.bool _ = Value.bool _; congr 1; rw [Bool.eq_iff_iff, decide_eq_true_eq (p := S.Jobs js), ← S.checkJobs_iff]; first | (simp; done) | (simp only [decide_eq_true_eq]; done) | (constructor <;> intro h <;> first | omega | (have := (S.checkJobs_iff.1 h).2.1; omega) | cases h)
  · skip
    refine guard_yes rfl rfl (not_decide_t hc3) ?_
    refine ops_y hH2 rfl rfl (yv_move rfl) ?_
    refine guard_yes rfl rfl (not_decide_t hc3) ?_
    refine op_fnV rfl rfl rfl hH2 (c23 (h0.now hH2 (n := 0) rfl) (by omega)) (fun w4 hH5 => ?_)
    refine guard_yes rfl rfl (not_decide_t hc3) ?_
    refine ops_y hH5 rfl rfl (yv_eql rfl rfl) ?_
    refine ops_y hH5 rfl rfl (yv_pick_t rfl (not_decide_t hc3) rfl) ?_
    refine ops_y hH5 rfl rfl (yv_assign rfl) ?_
    refine ops_nil ?_
    refine thn_n ?_
    refine ret ?_
    refine fin hH5 (fun w' hf => (res1 rfl (show RV _ _ _ (.tmp 2) _ from rfl))) (fun w' hf => ?_)
    show Value.bool _ = Value.bool _; congr 1; rw [Bool.eq_iff_iff, decide_eq_true_eq (p := S.Jobs js), ← S.checkJobs_iff]; first | (simp; done) | (simp only [decide_eq_true_eq]; done) | (constructor <;> intro h <;> first | omega | (have := (S.checkJobs_iff.1 h).2.1; omega) | cases h)

theorem c80 {v : Value} {l : List Int} {a x : Int} {w : World} (h0 : Rd encI 1 v l w) (hn : l.length ≤ 100000) (ha : 0 ≤ a ∧ a ≤ (l.length : Int))  :
    Fn Try.prog 80 [v, (.int .i64 a), (.int .i64 x)].toArray w (fun u w => Own 3 1 encI u (S.ins l a x) w) := by
  refine fn_of' (args := [v, (.int .i64 a), (.int .i64 x)]) Try.func80 rfl (ent Try.func80 (by kernel_rfl) rfl) rfl rfl (fun hH => ?_)
  have htl : (l.take a.toNat).length = a.toNat := by rw [List.length_take]; omega
  have hdl : (l.drop a.toNat).length = l.length - a.toNat := List.length_drop
  refine seq ?_
  refine region ?_
  refine ops_y hH rfl rfl (yv_assign rfl) ?_
  refine ops_nil ?_
  refine thn_n ?_
  refine seq ?_
  refine region_draw (fun w' => True) T.mixed (fun w1 hr2 => ?_)
  have hH3 := hH.redrawn hr2
  refine any_takes [1, 2, 3, 5, 8, 9, 10] (by kernel_rfl) trivial _ _ _ (by kernel_rfl) ?_
  refine qs_y rfl rfl (yv_move rfl) ?_
  refine qs_y rfl rfl (yv_move rfl) ?_
  refine qs_y rfl rfl (yv_cut_hi T.sl39 rfl rfl (h0.now hH3 (n := 0) rfl).is (by omega)) ?_
  refine qs_y rfl rfl (yv_move rfl) ?_
  refine qs_y rfl rfl (yv_move rfl) ?_
  refine qs_y rfl rfl (yv_move rfl) ?_
  refine qs_y rfl rfl (yv_cut_lo T.sl39 rfl rfl (h0.now hH3 (n := 0) rfl).is (by omega)) ?_
  refine qs_nil ?_
  refine any_all [0, 6] (by kernel_rfl) rfl ?_
  refine ⟨⟨_, rfl, ?_⟩, ⟨_, rfl, ?_⟩, trivial⟩
  · skip
    refine op_lit (us := []) T.el39_encI ([] : List Int) rfl (by decide) rfl (fun a ha => by simp) (fun w => by kernel_rfl) hH3 (fun u4 lo6 hi7 w5 hH8 => ?_)
    refine ops_nil ?_
    refine ⟨trivial, ?_⟩
    refine any_all [4, 6] (by kernel_rfl) rfl ?_
    refine ⟨⟨_, rfl, ?_⟩, ⟨_, rfl, ?_⟩, trivial⟩
    · skip
      refine op_append (n := 0) T.el39_encI rfl rfl rfl hH8 rfl (Rd.upto (h0.now hH8 (n := 1) rfl) (hi := a.toNat) (by omega)) (by first | omega | (simp only [List.length_append, List.length_cons, List.length_nil]; omega)) (fun u9 lo11 hi12 w10 hH13 => ?_)
      refine ops_nil ?_
      refine ⟨trivial, ?_⟩
      refine any_all [6] (by kernel_rfl) rfl ?_
      refine ⟨⟨_, rfl, ?_⟩, trivial⟩
      · skip
        refine op_lit (us := [(0, (.int .i64 x))]) T.el39_encI [x] rfl (by decide) rfl (fun a ha => by simp [ha.ev (show ev _ (.tmp 12) = some _ from rfl)]) (fun w => by kernel_rfl) hH13 (fun u14 lo16 hi17 w15 hH18 => ?_)
        refine ops_nil ?_
        refine ⟨trivial, ?_⟩
        refine any_all [7] (by kernel_rfl) rfl ?_
        refine ⟨⟨_, rfl, ?_⟩, trivial⟩
        · skip
          refine op_append (n := 1) T.el39_encI rfl rfl rfl hH18 rfl (Heap.rdw T.el39_encI hH18 (n := 0) rfl) (by first | omega | (simp only [List.length_append, List.length_cons, List.length_nil]; omega)) (fun u19 lo21 hi22 w20 hH23 => ?_)
          refine ops_nil ?_
          refine ⟨trivial, ?_⟩
          refine any_all [11] (by kernel_rfl) rfl ?_
          refine ⟨⟨_, rfl, ?_⟩, trivial⟩
          · skip
            refine op_append (n := 1) T.el39_encI rfl rfl rfl hH23 rfl (Rd.from (h0.now hH23 (n := 2) rfl) (lo := a.toNat) (by omega)) (by first | omega | (simp only [List.length_append, List.length_cons, List.length_nil]; omega)) (fun u24 lo26 hi27 w25 hH28 => ?_)
            refine ops_nil ?_
            refine ⟨trivial, ?_⟩
            refine any_takes [12] (by kernel_rfl) trivial _ _ _ (by kernel_rfl) ?_
            refine qs_y rfl rfl (yv_assign rfl) ?_
            refine qs_nil ?_
            refine any_done (by kernel_rfl) ?_
            refine thn_n ?_
            refine ret ?_
            have hH29 := (hH28.sub (List.Sublist.cons _ (List.Sublist.refl _)))
            refine fin (hH29.front (n := 1) rfl) (fun w' hf => (res1 rfl (show RV _ _ _ (.tmp 6) _ from rfl))) (fun w' hf => ?_)
            exact (by have h := Heap.own hf (n := 0) rfl; rw [List.nil_append] at h; exact h)
    · skip
      refine op_lit (us := [(0, (.int .i64 x))]) T.el39_encI [x] rfl (by decide) rfl (fun a ha => by simp [ha.ev (show ev _ (.tmp 12) = some _ from rfl)]) (fun w => by kernel_rfl) hH8 (fun u30 lo32 hi33 w31 hH34 => ?_)
      refine ops_nil ?_
      refine ⟨trivial, ?_⟩
      refine any_all [4] (by kernel_rfl) rfl ?_
      refine ⟨⟨_, rfl, ?_⟩, trivial⟩
      · skip
        refine op_append (n := 1) T.el39_encI rfl rfl rfl hH34 rfl (Rd.upto (h0.now hH34 (n := 2) rfl) (hi := a.toNat) (by omega)) (by first | omega | (simp only [List.length_append, List.length_cons, List.length_nil]; omega)) (fun u35 lo37 hi38 w36 hH39 => ?_)
        refine ops_nil ?_
        refine ⟨trivial, ?_⟩
        refine any_all [7] (by kernel_rfl) rfl ?_
        refine ⟨⟨_, rfl, ?_⟩, trivial⟩
        · skip
          refine op_append (n := 1) T.el39_encI rfl rfl rfl hH39 rfl (Heap.rdw T.el39_encI hH39 (n := 0) rfl) (by first | omega | (simp only [List.length_append, List.length_cons, List.length_nil]; omega)) (fun u40 lo42 hi43 w41 hH44 => ?_)
          refine ops_nil ?_
          refine ⟨trivial, ?_⟩
          refine any_all [11] (by kernel_rfl) rfl ?_
          refine ⟨⟨_, rfl, ?_⟩, trivial⟩
          · skip
            refine op_append (n := 1) T.el39_encI rfl rfl rfl hH44 rfl (Rd.from (h0.now hH44 (n := 2) rfl) (lo := a.toNat) (by omega)) (by first | omega | (simp only [List.length_append, List.length_cons, List.length_nil]; omega)) (fun u45 lo47 hi48 w46 hH49 => ?_)
            refine ops_nil ?_
            refine ⟨trivial, ?_⟩
            refine any_takes [12] (by kernel_rfl) trivial _ _ _ (by kernel_rfl) ?_
            refine qs_y rfl rfl (yv_assign rfl) ?_
            refine qs_nil ?_
            refine any_done (by kernel_rfl) ?_
            refine thn_n ?_
            refine ret ?_
            have hH50 := (hH49.sub (List.Sublist.cons _ (List.Sublist.refl _)))
            refine fin (hH50.front (n := 1) rfl) (fun w' hf => (res1 rfl (show RV _ _ _ (.tmp 6) _ from rfl))) (fun w' hf => ?_)
            exact (by have h := Heap.own hf (n := 0) rfl; rw [List.nil_append] at h; exact h)
  · skip
    refine op_lit (us := [(0, (.int .i64 x))]) T.el39_encI [x] rfl (by decide) rfl (fun a ha => by simp [ha.ev (show ev _ (.tmp 12) = some _ from rfl)]) (fun w => by kernel_rfl) hH3 (fun u51 lo53 hi54 w52 hH55 => ?_)
    refine ops_nil ?_
    refine ⟨trivial, ?_⟩
    refine any_all [0] (by kernel_rfl) rfl ?_
    refine ⟨⟨_, rfl, ?_⟩, trivial⟩
    · skip
      refine op_lit (us := []) T.el39_encI ([] : List Int) rfl (by decide) rfl (fun a ha => by simp) (fun w => by kernel_rfl) hH55 (fun u56 lo58 hi59 w57 hH60 => ?_)
      refine ops_nil ?_
      refine ⟨trivial, ?_⟩
      refine any_all [4] (by kernel_rfl) rfl ?_
      refine ⟨⟨_, rfl, ?_⟩, trivial⟩
      · skip
        refine op_append (n := 0) T.el39_encI rfl rfl rfl hH60 rfl (Rd.upto (h0.now hH60 (n := 2) rfl) (hi := a.toNat) (by omega)) (by first | omega | (simp only [List.length_append, List.length_cons, List.length_nil]; omega)) (fun u61 lo63 hi64 w62 hH65 => ?_)
        refine ops_nil ?_
        refine ⟨trivial, ?_⟩
        refine any_all [7] (by kernel_rfl) rfl ?_
        refine ⟨⟨_, rfl, ?_⟩, trivial⟩
        · skip
          refine op_append (n := 0) T.el39_encI rfl rfl rfl hH65 rfl (Heap.rdw T.el39_encI hH65 (n := 1) rfl) (by first | omega | (simp only [List.length_append, List.length_cons, List.length_nil]; omega)) (fun u66 lo68 hi69 w67 hH70 => ?_)
          refine ops_nil ?_
          refine ⟨trivial, ?_⟩
          refine any_all [11] (by kernel_rfl) rfl ?_
          refine ⟨⟨_, rfl, ?_⟩, trivial⟩
          · skip
            refine op_append (n := 0) T.el39_encI rfl rfl rfl hH70 rfl (Rd.from (h0.now hH70 (n := 2) rfl) (lo := a.toNat) (by omega)) (by first | omega | (simp only [List.length_append, List.length_cons, List.length_nil]; omega)) (fun u71 lo73 hi74 w72 hH75 => ?_)
            refine ops_nil ?_
            refine ⟨trivial, ?_⟩
            refine any_takes [12] (by kernel_rfl) trivial _ _ _ (by kernel_rfl) ?_
            refine qs_y rfl rfl (yv_assign rfl) ?_
            refine qs_nil ?_
            refine any_done (by kernel_rfl) ?_
            refine thn_n ?_
            refine ret ?_
            have hH76 := (hH75.sub (List.Sublist.cons_cons _ (List.Sublist.cons _ (List.Sublist.refl _))))
            refine fin (hH76.front (n := 1) rfl) (fun w' hf => (res1 rfl (show RV _ _ _ (.tmp 6) _ from rfl))) (fun w' hf => ?_)
            exact (by have h := Heap.own hf (n := 0) rfl; rw [List.nil_append] at h; exact h)

theorem c43 {vby : Value} {bs : List Int} {n : Nat} {w : World} (hby : Rd encB 1 vby bs w) (hbl : bs.length ≤ 60) (hbb : ∀ n ∈ bs, 0 ≤ n ∧ n ≤ 255) (hn : n ≤ 8)  :
    Fn Try.prog 43 [(.int .i64 (n : Int)), vby].toArray w (fun u w => ∃ b t f, u = .agg #[b, t, f] ∧ Rd3 b t f (S.ordB bs n) (S.ordU bs n) (S.ordF bs n) w) := by
  refine fn_of' (args := [(.int .i64 (n : Int)), vby]) Try.func43 rfl (ent Try.func43 (by kernel_rfl) rfl) rfl rfl (fun hH => ?_)
  refine seq ?_
  refine region ?_
  refine op_alloc (z := (.agg #[(.slice none 0 0), (.slice none 0 0), (.slice none 0 0)])) (us := [(.slice none 0 0), (.slice none 0 0), (.slice none 0 0)]) (fun _ => by kernel_rfl) rfl rfl hH (fun b1 w2 hH3 => ?_)
  refine ops_nil ?_
  refine thn_n ?_
  refine seq ?_
  refine region ?_
  refine op_alloc (z := (.agg #[(.slice none 0 0), (.slice none 0 0), (.slice none 0 0)])) (us := [(.slice none 0 0), (.slice none 0 0), (.slice none 0 0)]) (fun _ => by kernel_rfl) rfl rfl hH3 (fun b4 w5 hH6 => ?_)
  refine ops_nil ?_
  refine thn_n ?_
  refine seq ?_
  refine seq ?_
  refine region ?_
  refine ops_y hH6 rfl rfl (yv_assign rfl) ?_
  refine ops_nil ?_
  refine thn_n ?_
  refine block ?_
  have hH7 := ow_nil (enc := encI) 3 1 hH6
  have hH8 := ow_nil (enc := encI) 3 1 hH7
  have hH9 := ow_nil (enc := encI) 3 1 hH8
  refine loop (S := Nat × Value × Nat × Nat × Value × Nat × Nat × Value × Nat × Nat) (fun (k, v_b5_0, lo_b5_0, hi_b5_0, v_b5_1, lo_b5_1, hi_b5_1, v_b5_2, lo_b5_2, hi_b5_2) => [(6, (.int .i64 (k : Int))), (0, (.int .i64 (n : Int))), (1, vby), (4, (.pointer (some ⟨b1, 0, none⟩))), (5, (.pointer (some ⟨b4, 0, none⟩)))]) (fun (k, v_b5_0, lo_b5_0, hi_b5_0, v_b5_1, lo_b5_1, hi_b5_1, v_b5_2, lo_b5_2, hi_b5_2) w1 => Heap [ow lo_b5_2 hi_b5_2 3 1 encI v_b5_2 (S.ordF bs k), ow lo_b5_1 hi_b5_1 3 1 encI v_b5_1 (S.ordU bs k), ow lo_b5_0 hi_b5_0 3 1 encI v_b5_0 (S.ordB bs k), bx b4 41 [v_b5_0, v_b5_1, v_b5_2], bx b1 41 [(.slice none 0 0), (.slice none 0 0), (.slice none 0 0)], base w] w1 ∧ k ≤ n) (fun (k, v_b5_0, lo_b5_0, hi_b5_0, v_b5_1, lo_b5_1, hi_b5_1, v_b5_2, lo_b5_2, hi_b5_2) => n - k) (0, (.slice none 0 0), w5.heap.size, w5.heap.size, (.slice none 0 0), w5.heap.size, w5.heap.size, (.slice none 0 0), w5.heap.size, w5.heap.size) (Sub.cons rfl (Sub.cons rfl (Sub.cons rfl (Sub.cons rfl (Sub.cons rfl (Sub.nil _)))))) ?_ ?_
  · exact ⟨hH9, by omega⟩
  · rintro ⟨k, v_b5_0, lo_b5_0, hi_b5_0, v_b5_1, lo_b5_1, hi_b5_1, v_b5_2, lo_b5_2, hi_b5_2⟩ w10 ⟨hH11, hk⟩
    show Holds _ _ _ _ _ [(6, (.int .i64 (k : Int))), (0, (.int .i64 (n : Int))), (1, vby), (4, (.pointer (some ⟨b1, 0, none⟩))), (5, (.pointer (some ⟨b4, 0, none⟩)))] _ _
    have hB := (S.ordB_ok (by_ := bs) k).1
    have hU := (S.ordU_ok (by_ := bs) k).1
    have hF := S.ordF_len (by_ := bs) k
    refine seq ?_
    refine seq ?_
    refine region ?_
    refine ops_y hH11 rfl rfl (yv_move rfl) ?_
    refine ops_y hH11 rfl rfl (yv_move rfl) ?_
    refine ops_y hH11 rfl rfl (yv_lss rfl rfl) ?_
    refine ops_nil ?_
    refine thn_n ?_
    by_cases hc12 : (k : Int) < (n : Int)
    · skip
      refine cond_t rfl (decide_eq_true hc12) ?_
      refine skip ?_
      refine thn_n ?_
      refine seq ?_
      refine block ?_
      refine seq ?_
      refine region ?_
      refine ops_y hH11 rfl rfl (yv_move rfl) ?_
      refine ops_y hH11 rfl rfl (yv_move rfl) ?_
      refine ops_y hH11 rfl rfl (yv_assign rfl) ?_
      refine ops_y hH11 rfl rfl (yv_assign rfl) ?_
      refine ops_y hH11 rfl rfl (yv_assign rfl) ?_
      refine ops_nil ?_
      refine thn_n ?_
      refine seq ?_
      refine seq ?_
      refine region ?_
      refine ops_y hH11 rfl rfl (yv_move rfl) ?_
      refine ops_y hH11 rfl rfl (yv_len T.sl54 rfl (hby.now hH11 (n := 5) rfl).is) ?_
      refine ops_y hH11 rfl rfl (yv_gtr rfl rfl) ?_
      refine ops_nil ?_
      refine thn_n ?_
      by_cases hc13 : 0 < (bs.length : Int)
      · skip
        have hpos : 0 < bs.length := by omega
        obtain ⟨q0, q1, q2, q3⟩ := S.pick_bd hpos hbb 0 k
        obtain ⟨r0, r1, r2, r3⟩ := S.pick_bd hpos hbb 1 k
        obtain ⟨s0, s1, s2, s3⟩ := S.pick_bd hpos hbb 2 k
        unfold S.pick at q2 q3 r2 r3 s2 s3
        rw [Int.add_zero] at q0 q1 q2 q3
        have t0 := S.emod_bd (x := nth bs (3 * (k : Int) % (bs.length : Int))) (k := k)
        have t1 := S.emod_bd (x := nth bs ((3 * (k : Int) + 1) % (bs.length : Int))) (k := k)
        refine cond_t rfl (decide_eq_true hc13) ?_
        refine region_draw (fun w' => Heap [ow lo_b5_2 hi_b5_2 3 1 encI v_b5_2 (S.ordF bs k), ow lo_b5_1 hi_b5_1 3 1 encI v_b5_1 (S.ordU bs k), ow lo_b5_0 hi_b5_0 3 1 encI v_b5_0 (S.ordB bs k), bx b4 41 [v_b5_0, v_b5_1, v_b5_2], bx b1 41 [(.slice none 0 0), (.slice none 0 0), (.slice none 0 0)], base w] w') T.mixed (fun w14 hr15 => ?_)
        have hH16 := hH11.redrawn hr15
        refine any_takes [0, 1, 2, 3, 4, 5, 6, 7, 8, 9, 10, 11, 12, 13, 14, 15, 16, 17, 18, 19, 20, 21, 22, 23, 24, 25, 26, 27, 28, 29, 30, 31, 32, 33, 34, 35, 36, 37, 38] (by kernel_rfl) hH16 _ _ _ (by kernel_rfl) ?_
        refine qs_y rfl rfl (yv_move rfl) ?_
        refine qs_y rfl rfl (yv_move rfl) ?_
        refine qs_y rfl rfl (yv_mul rfl rfl (by omega)) ?_
        refine qs_y rfl rfl (yv_move rfl) ?_
        refine qs_y rfl rfl (yv_len T.sl54 rfl (hby.now hH16 (n := 5) rfl).is) ?_
        refine qs_y rfl rfl (yv_rem rfl rfl (by omega) (by omega)) ?_
        refine qs_y rfl rfl (yv_index T.sl54 rfl rfl (hby.now hH16 (n := 5) rfl).is (by omega)) ?_
        refine qs_y rfl rfl (yv_load T.one5 rfl (fun _ hw => Rd.at (hby.now hw (n := 5) rfl) (i := (3 * (k : Int)) % (bs.length : Int)) (by omega) (j := 0) rfl)) ?_
        refine qs_y rfl rfl (yv_conv Try.underlying5 Try.underlying3 rfl (wrap_i64 (by omega))) ?_
        refine qs_y rfl rfl (yv_move rfl) ?_
        refine qs_y rfl rfl (yv_add rfl rfl (by omega)) ?_
        refine qs_y rfl rfl (yv_rem rfl rfl (by omega) (by omega)) ?_
        refine qs_y rfl rfl (yv_move rfl) ?_
        refine qs_y rfl rfl (yv_move rfl) ?_
        refine qs_y rfl rfl (yv_mul rfl rfl (by omega)) ?_
        refine qs_y rfl rfl (yv_add rfl rfl (by omega)) ?_
        refine qs_y rfl rfl (yv_move rfl) ?_
        refine qs_y rfl rfl (yv_len T.sl54 rfl (hby.now hH16 (n := 5) rfl).is) ?_
        refine qs_y rfl rfl (yv_rem rfl rfl (by omega) (by omega)) ?_
        refine qs_y rfl rfl (yv_index T.sl54 rfl rfl (hby.now hH16 (n := 5) rfl).is (by omega)) ?_
        refine qs_y rfl rfl (yv_load T.one5 rfl (fun _ hw => Rd.at (hby.now hw (n := 5) rfl) (i := ((3 * (k : Int)) + 1) % (bs.length : Int)) (by omega) (j := 0) rfl)) ?_
        refine qs_y rfl rfl (yv_conv Try.underlying5 Try.underlying3 rfl (wrap_i64 (by omega))) ?_
        refine qs_y rfl rfl (yv_move rfl) ?_
        refine qs_y rfl rfl (yv_add rfl rfl (by omega)) ?_
        refine qs_y rfl rfl (yv_rem rfl rfl (by omega) (by omega)) ?_
        refine qs_y rfl rfl (yv_move rfl) ?_
        refine qs_y rfl rfl (yv_move rfl) ?_
        refine qs_y rfl rfl (yv_mul rfl rfl (by omega)) ?_
        refine qs_y rfl rfl (yv_add rfl rfl (by omega)) ?_
        refine qs_y rfl rfl (yv_move rfl) ?_
        refine qs_y rfl rfl (yv_len T.sl54 rfl (hby.now hH16 (n := 5) rfl).is) ?_
        refine qs_y rfl rfl (yv_rem rfl rfl (by omega) (by omega)) ?_
        refine qs_y rfl rfl (yv_index T.sl54 rfl rfl (hby.now hH16 (n := 5) rfl).is (by omega)) ?_
        refine qs_y rfl rfl (yv_load T.one5 rfl (fun _ hw => Rd.at (hby.now hw (n := 5) rfl) (i := ((3 * (k : Int)) + 2) % (bs.length : Int)) (by omega) (j := 0) rfl)) ?_
        refine qs_y rfl rfl (yv_conv Try.underlying5 Try.underlying3 rfl (wrap_i64 (by omega))) ?_
        refine qs_y rfl rfl (yv_rem rfl rfl (by omega) (by omega)) ?_
        refine qs_y rfl rfl (yv_assign rfl) ?_
        refine qs_y rfl rfl (yv_assign rfl) ?_
        refine qs_y rfl rfl (yv_assign rfl) ?_
        refine qs_nil ?_
        refine any_done (by kernel_rfl) ?_
        refine thn_n ?_
        refine region_drawX (fun w' => Heap [bx b4 41 [v_b5_0, v_b5_1, v_b5_2], bx b1 41 [(.slice none 0 0), (.slice none 0 0), (.slice none 0 0)], base w] w') [16, 17, 18, 19, 20] T.mixed (fun w17 hr18 => ?_)
        have hH19 := hH16.redrawn hr18
        refine any_takesX [0, 1, 2, 3, 5, 6, 7, 8, 10, 11, 12] (by kernel_rfl) (hH19.sub (List.Sublist.cons _ (List.Sublist.cons _ (List.Sublist.cons _ (List.Sublist.refl _))))) _ _ _ (by kernel_rfl) ?_
        refine qs_y rfl rfl (yv_field T.f41_0 rfl) ?_
        refine qs_y rfl rfl (yv_load T.one39 rfl (fun _ hw => Heap.cellw hw (n := 0) rfl rfl)) ?_
        refine qs_y rfl rfl (yv_move rfl) ?_
        refine qs_y rfl rfl (yv_move rfl) ?_
        refine qs_y rfl rfl (yv_field T.f41_1 rfl) ?_
        refine qs_y rfl rfl (yv_load T.one39 rfl (fun _ hw => Heap.cellw hw (n := 0) rfl rfl)) ?_
        refine qs_y rfl rfl (yv_move rfl) ?_
        refine qs_y rfl rfl (yv_move rfl) ?_
        refine qs_y rfl rfl (yv_field T.f41_2 rfl) ?_
        refine qs_y rfl rfl (yv_load T.one39 rfl (fun _ hw => Heap.cellw hw (n := 0) rfl rfl)) ?_
        refine qs_y rfl rfl (yv_move rfl) ?_
        refine qs_nil ?_
        refine any_allX [4, 13] (by kernel_rfl) rfl ?_
        refine ⟨⟨_, rfl, ?_⟩, ⟨_, rfl, ?_⟩, trivial⟩
        · skip
          refine op_fn rfl rfl rfl hH19 (c80 (Heap.rdw T.el39_encI hH19 (n := 2) rfl) (by omega) (by omega)) (fun u22 w20 lo23 hi24 hH21 hv25 => ?_)
          have hH26 := Heap.toOw hH21 (n := 0) rfl
          refine ops_nil ?_
          refine ⟨fun _ => (hH26.sub (List.Sublist.cons _ (List.Sublist.cons _ (List.Sublist.cons _ (List.Sublist.cons _ (List.Sublist.refl _)))))), ?_⟩
          refine any_takesX [15] (by kernel_rfl) (hH26.sub (List.Sublist.cons _ (List.Sublist.cons _ (List.Sublist.cons _ (List.Sublist.cons _ (List.Sublist.refl _)))))) _ _ _ (by kernel_rfl) ?_
          refine qs_y rfl rfl (yv_field T.f41_0 rfl) ?_
          refine qs_nil ?_
          refine any_allX [9, 13] (by kernel_rfl) rfl ?_
          refine ⟨⟨_, rfl, ?_⟩, ⟨_, rfl, ?_⟩, trivial⟩
          · skip
            refine op_fn rfl rfl rfl hH26 (c80 (Heap.rdw T.el39_encI hH26 (n := 2) rfl) (by omega) (by omega)) (fun u29 w27 lo30 hi31 hH28 hv32 => ?_)
            have hH33 := Heap.toOw hH28 (n := 0) rfl
            refine ops_nil ?_
            refine ⟨fun _ => (hH33.sub (List.Sublist.cons _ (List.Sublist.cons _ (List.Sublist.cons _ (List.Sublist.cons _ (List.Sublist.cons _ (List.Sublist.refl _))))))), ?_⟩
            refine any_allX [13] (by kernel_rfl) rfl ?_
            refine ⟨⟨_, rfl, ?_⟩, trivial⟩
            · skip
              refine op_lit (us := [(0, (.int .i64 ((nth bs (((3 * (k : Int)) + 2) % (bs.length : Int))) % 2)))]) T.el39_encI [(nth bs (((3 * (k : Int)) + 2) % (bs.length : Int))) % 2] rfl (by decide) rfl (fun a ha => by simp [ha.ev (show ev _ (.tmp 68) = some _ from rfl)]) (fun w => by kernel_rfl) hH33 (fun u34 lo36 hi37 w35 hH38 => ?_)
              refine ops_nil ?_
              refine ⟨fun _ => (hH38.sub (List.Sublist.cons _ (List.Sublist.cons _ (List.Sublist.cons _ (List.Sublist.cons _ (List.Sublist.cons _ (List.Sublist.cons _ (List.Sublist.refl _)))))))), ?_⟩
              refine any_allX [14] (by kernel_rfl) rfl ?_
              refine ⟨⟨_, rfl, ?_⟩, trivial⟩
              · skip
                refine op_append (n := 3) T.el39_encI rfl rfl rfl hH38 rfl (Heap.rdw T.el39_encI hH38 (n := 0) rfl) (by first | omega | (simp only [List.length_append, List.length_cons, List.length_nil]; omega)) (fun u39 lo41 hi42 w40 hH43 => ?_)
                refine ops_nil ?_
                refine ⟨fun _ => (hH43.sub (List.Sublist.cons _ (List.Sublist.cons _ (List.Sublist.cons _ (List.Sublist.cons _ (List.Sublist.cons _ (List.Sublist.cons _ (List.Sublist.refl _)))))))), ?_⟩
                refine any_allX [16] (by kernel_rfl) rfl ?_
                refine ⟨⟨_, rfl, ?_⟩, trivial⟩
                · skip
                  refine op_store (n := 6) (j := 0) (us := [u22]) rfl rfl hH43 rfl T.sz39 (SliceIs.cells (Heap.rdw T.el39_encI hH43 (n := 2) rfl).is) rfl rfl (SliceIs.one (Heap.rdw T.el39_encI hH43 (n := 2) rfl).is) (fun w44 hH45 => ?_)
                  refine ops_nil ?_
                  refine ⟨(fun h => by cases h), ?_⟩
                  refine any_allX [17] (by kernel_rfl) rfl ?_
                  refine ⟨⟨_, rfl, ?_⟩, trivial⟩
                  · skip
                    refine ops_y hH45 rfl rfl (yv_field T.f41_1 rfl) ?_
                    refine ops_nil ?_
                    refine ⟨(fun h => by cases h), ?_⟩
                    refine any_allX [18] (by kernel_rfl) rfl ?_
                    refine ⟨⟨_, rfl, ?_⟩, trivial⟩
                    · skip
                      refine op_store (n := 6) (j := 1) (us := [u29]) rfl rfl hH45 rfl T.sz39 (SliceIs.cells (Heap.rdw T.el39_encI hH45 (n := 1) rfl).is) rfl rfl (SliceIs.one (Heap.rdw T.el39_encI hH45 (n := 1) rfl).is) (fun w46 hH47 => ?_)
                      refine ops_nil ?_
                      refine ⟨(fun h => by cases h), ?_⟩
                      refine any_allX [19] (by kernel_rfl) rfl ?_
                      refine ⟨⟨_, rfl, ?_⟩, trivial⟩
                      · skip
                        refine ops_y hH47 rfl rfl (yv_field T.f41_2 rfl) ?_
                        refine ops_nil ?_
                        refine ⟨(fun h => by cases h), ?_⟩
                        refine any_allX [20] (by kernel_rfl) rfl ?_
                        refine ⟨⟨_, rfl, ?_⟩, trivial⟩
                        · skip
                          refine op_store (n := 6) (j := 2) (us := [u39]) rfl rfl hH47 rfl T.sz39 (SliceIs.cells (Heap.rdw T.el39_encI hH47 (n := 3) rfl).is) rfl rfl (SliceIs.one (Heap.rdw T.el39_encI hH47 (n := 3) rfl).is) (fun w48 hH49 => ?_)
                          refine ops_nil ?_
                          refine ⟨(fun h => by cases h), ?_⟩
                          refine any_doneX (by kernel_rfl) ?_
                          refine blk_n ?_
                          refine thn_n ?_
                          refine region ?_
                          refine ops_y hH49 rfl rfl (yv_move rfl) ?_
                          refine ops_y hH49 rfl rfl (yv_add rfl rfl (by omega)) ?_
                          refine ops_y hH49 rfl rfl (yv_assign rfl) ?_
                          refine ops_nil ?_
                          have hH50 := hH49.front (n := 8) rfl
                          have hH51 := hH50.front (n := 8) rfl
                          have hH52 := hH51.front (n := 8) rfl
                          have hH53 := hH52.front (n := 5) rfl
                          have hH54 := hH53.front (n := 5) rfl
                          have hH55 := hH54.front (n := 6) rfl
                          have hH56 := (hH55.sub (List.Sublist.cons_cons _ (List.Sublist.cons_cons _ (List.Sublist.cons_cons _ (List.Sublist.cons_cons _ (List.Sublist.cons_cons _ (List.Sublist.cons_cons _ (List.nil_sublist _))))))))
                          refine lp_n (k + 1, u22, lo23, hi24, u29, lo30, hi31, u39, lo41, hi42) (Sub.cons rfl (Sub.cons rfl (Sub.cons rfl (Sub.cons rfl (Sub.cons rfl (Sub.nil _)))))) ?_ ?_
                          · exact ⟨(Heap.recast (n := 0) (Heap.recast (n := 1) (Heap.recast (n := 2) hH56 rfl (by first | exact S.ordB_t hpos (by first | rfl | (unfold S.pick; rw [Int.add_zero])) | exact S.ordB_f (by omega))) rfl (by first | exact S.ordU_t hpos (by first | rfl | (unfold S.pick; rw [Int.add_zero])) | exact S.ordU_f (by omega))) rfl (by first | exact S.ordF_t hpos (by first | rfl | (unfold S.pick; rw [Int.add_zero])) | exact S.ordF_f (by omega))), by omega⟩
                          · first | (dsimp only; omega) | (show _ < _; omega)
          · skip
            refine op_lit (us := [(0, (.int .i64 ((nth bs (((3 * (k : Int)) + 2) % (bs.length : Int))) % 2)))]) T.el39_encI [(nth bs (((3 * (k : Int)) + 2) % (bs.length : Int))) % 2] rfl (by decide) rfl (fun a ha => by simp [ha.ev (show ev _ (.tmp 68) = some _ from rfl)]) (fun w => by kernel_rfl) hH26 (fun u57 lo59 hi60 w58 hH61 => ?_)
            refine ops_nil ?_
            refine ⟨fun _ => (hH61.sub (List.Sublist.cons _ (List.Sublist.cons _ (List.Sublist.cons _ (List.Sublist.cons _ (List.Sublist.cons _ (List.Sublist.refl _))))))), ?_⟩
            refine any_allX [9] (by kernel_rfl) rfl ?_
            refine ⟨⟨_, rfl, ?_⟩, trivial⟩
            · skip
              refine op_fn rfl rfl rfl hH61 (c80 (Heap.rdw T.el39_encI hH61 (n := 3) rfl) (by omega) (by omega)) (fun u64 w62 lo65 hi66 hH63 hv67 => ?_)
              have hH68 := Heap.toOw hH63 (n := 0) rfl
              refine ops_nil ?_
              refine ⟨fun _ => (hH68.sub (List.Sublist.cons _ (List.Sublist.cons _ (List.Sublist.cons _ (List.Sublist.cons _ (List.Sublist.cons _ (List.Sublist.cons _ (List.Sublist.refl _)))))))), ?_⟩
              refine any_allX [14] (by kernel_rfl) rfl ?_
              refine ⟨⟨_, rfl, ?_⟩, trivial⟩
              · skip
                refine op_append (n := 3) T.el39_encI rfl rfl rfl hH68 rfl (Heap.rdw T.el39_encI hH68 (n := 1) rfl) (by first | omega | (simp only [List.length_append, List.length_cons, List.length_nil]; omega)) (fun u69 lo71 hi72 w70 hH73 => ?_)
                refine ops_nil ?_
                refine ⟨fun _ => (hH73.sub (List.Sublist.cons _ (List.Sublist.cons _ (List.Sublist.cons _ (List.Sublist.cons _ (List.Sublist.cons _ (List.Sublist.cons _ (List.Sublist.refl _)))))))), ?_⟩
                refine any_allX [16] (by kernel_rfl) rfl ?_
                refine ⟨⟨_, rfl, ?_⟩, trivial⟩
                · skip
                  refine op_store (n := 6) (j := 0) (us := [u22]) rfl rfl hH73 rfl T.sz39 (SliceIs.cells (Heap.rdw T.el39_encI hH73 (n := 2) rfl).is) rfl rfl (SliceIs.one (Heap.rdw T.el39_encI hH73 (n := 2) rfl).is) (fun w74 hH75 => ?_)
                  refine ops_nil ?_
                  refine ⟨(fun h => by cases h), ?_⟩
                  refine any_allX [17] (by kernel_rfl) rfl ?_
                  refine ⟨⟨_, rfl, ?_⟩, trivial⟩
                  · skip
                    refine ops_y hH75 rfl rfl (yv_field T.f41_1 rfl) ?_
                    refine ops_nil ?_
                    refine ⟨(fun h => by cases h), ?_⟩
                    refine any_allX [18] (by kernel_rfl) rfl ?_
                    refine ⟨⟨_, rfl, ?_⟩, trivial⟩
                    · skip
                      refine op_store (n := 6) (j := 1) (us := [u64]) rfl rfl hH75 rfl T.sz39 (SliceIs.cells (Heap.rdw T.el39_encI hH75 (n := 0) rfl).is) rfl rfl (SliceIs.one (Heap.rdw T.el39_encI hH75 (n := 0) rfl).is) (fun w76 hH77 => ?_)
                      refine ops_nil ?_
                      refine ⟨(fun h => by cases h), ?_⟩
                      refine any_allX [19] (by kernel_rfl) rfl ?_
                      refine ⟨⟨_, rfl, ?_⟩, trivial⟩
                      · skip
                        refine ops_y hH77 rfl rfl (yv_field T.f41_2 rfl) ?_
                        refine ops_nil ?_
                        refine ⟨(fun h => by cases h), ?_⟩
                        refine any_allX [20] (by kernel_rfl) rfl ?_
                        refine ⟨⟨_, rfl, ?_⟩, trivial⟩
                        · skip
                          refine op_store (n := 6) (j := 2) (us := [u69]) rfl rfl hH77 rfl T.sz39 (SliceIs.cells (Heap.rdw T.el39_encI hH77 (n := 3) rfl).is) rfl rfl (SliceIs.one (Heap.rdw T.el39_encI hH77 (n := 3) rfl).is) (fun w78 hH79 => ?_)
                          refine ops_nil ?_
                          refine ⟨(fun h => by cases h), ?_⟩
                          refine any_doneX (by kernel_rfl) ?_
                          refine blk_n ?_
                          refine thn_n ?_
                          refine region ?_
                          refine ops_y hH79 rfl rfl (yv_move rfl) ?_
                          refine ops_y hH79 rfl rfl (yv_add rfl rfl (by omega)) ?_
                          refine ops_y hH79 rfl rfl (yv_assign rfl) ?_
                          refine ops_nil ?_
                          have hH80 := hH79.front (n := 8) rfl
                          have hH81 := hH80.front (n := 8) rfl
                          have hH82 := hH81.front (n := 8) rfl
                          have hH83 := hH82.front (n := 5) rfl
                          have hH84 := hH83.front (n := 4) rfl
                          have hH85 := hH84.front (n := 6) rfl
                          have hH86 := (hH85.sub (List.Sublist.cons_cons _ (List.Sublist.cons_cons _ (List.Sublist.cons_cons _ (List.Sublist.cons_cons _ (List.Sublist.cons_cons _ (List.Sublist.cons_cons _ (List.nil_sublist _))))))))
                          refine lp_n (k + 1, u22, lo23, hi24, u64, lo65, hi66, u69, lo71, hi72) (Sub.cons rfl (Sub.cons rfl (Sub.cons rfl (Sub.cons rfl (Sub.cons rfl (Sub.nil _)))))) ?_ ?_
                          · exact ⟨(Heap.recast (n := 0) (Heap.recast (n := 1) (Heap.recast (n := 2) hH86 rfl (by first | exact S.ordB_t hpos (by first | rfl | (unfold S.pick; rw [Int.add_zero])) | exact S.ordB_f (by omega))) rfl (by first | exact S.ordU_t hpos (by first | rfl | (unfold S.pick; rw [Int.add_zero])) | exact S.ordU_f (by omega))) rfl (by first | exact S.ordF_t hpos (by first | rfl | (unfold S.pick; rw [Int.add_zero])) | exact S.ordF_f (by omega))), by omega⟩
                          · first | (dsimp only; omega) | (show _ < _; omega)
        · skip
          refine op_lit (us := [(0, (.int .i64 ((nth bs (((3 * (k : Int)) + 2) % (bs.length : Int))) % 2)))]) T.el39_encI [(nth bs (((3 * (k : Int)) + 2) % (bs.length : Int))) % 2] rfl (by decide) rfl (fun a ha => by simp [ha.ev (show ev _ (.tmp 68) = some _ from rfl)]) (fun w => by kernel_rfl) hH19 (fun u87 lo89 hi90 w88 hH91 => ?_)
          refine ops_nil ?_
          refine ⟨fun _ => (hH91.sub (List.Sublist.cons _ (List.Sublist.cons _ (List.Sublist.cons _ (List.Sublist.cons _ (List.Sublist.refl _)))))), ?_⟩
          refine any_allX [4] (by kernel_rfl) rfl ?_
          refine ⟨⟨_, rfl, ?_⟩, trivial⟩
          · skip
            refine op_fn rfl rfl rfl hH91 (c80 (Heap.rdw T.el39_encI hH91 (n := 3) rfl) (by omega) (by omega)) (fun u94 w92 lo95 hi96 hH93 hv97 => ?_)
            have hH98 := Heap.toOw hH93 (n := 0) rfl
            refine ops_nil ?_
            refine ⟨fun _ => (hH98.sub (List.Sublist.cons _ (List.Sublist.cons _ (List.Sublist.cons _ (List.Sublist.cons _ (List.Sublist.cons _ (List.Sublist.refl _))))))), ?_⟩
            refine any_takesX [15] (by kernel_rfl) (hH98.sub (List.Sublist.cons _ (List.Sublist.cons _ (List.Sublist.cons _ (List.Sublist.cons _ (List.Sublist.cons _ (List.Sublist.refl _))))))) _ _ _ (by kernel_rfl) ?_
            refine qs_y rfl rfl (yv_field T.f41_0 rfl) ?_
            refine qs_nil ?_
            refine any_allX [9] (by kernel_rfl) rfl ?_
            refine ⟨⟨_, rfl, ?_⟩, trivial⟩
            · skip
              refine op_fn rfl rfl rfl hH98 (c80 (Heap.rdw T.el39_encI hH98 (n := 3) rfl) (by omega) (by omega)) (fun u101 w99 lo102 hi103 hH100 hv104 => ?_)
              have hH105 := Heap.toOw hH100 (n := 0) rfl
              refine ops_nil ?_
              refine ⟨fun _ => (hH105.sub (List.Sublist.cons _ (List.Sublist.cons _ (List.Sublist.cons _ (List.Sublist.cons _ (List.Sublist.cons _ (List.Sublist.cons _ (List.Sublist.refl _)))))))), ?_⟩
              refine any_allX [14] (by kernel_rfl) rfl ?_
              refine ⟨⟨_, rfl, ?_⟩, trivial⟩
              · skip
                refine op_append (n := 3) T.el39_encI rfl rfl rfl hH105 rfl (Heap.rdw T.el39_encI hH105 (n := 2) rfl) (by first | omega | (simp only [List.length_append, List.length_cons, List.length_nil]; omega)) (fun u106 lo108 hi109 w107 hH110 => ?_)
                refine ops_nil ?_
                refine ⟨fun _ => (hH110.sub (List.Sublist.cons _ (List.Sublist.cons _ (List.Sublist.cons _ (List.Sublist.cons _ (List.Sublist.cons _ (List.Sublist.cons _ (List.Sublist.refl _)))))))), ?_⟩
                refine any_allX [16] (by kernel_rfl) rfl ?_
                refine ⟨⟨_, rfl, ?_⟩, trivial⟩
                · skip
                  refine op_store (n := 6) (j := 0) (us := [u94]) rfl rfl hH110 rfl T.sz39 (SliceIs.cells (Heap.rdw T.el39_encI hH110 (n := 1) rfl).is) rfl rfl (SliceIs.one (Heap.rdw T.el39_encI hH110 (n := 1) rfl).is) (fun w111 hH112 => ?_)
                  refine ops_nil ?_
                  refine ⟨(fun h => by cases h), ?_⟩
                  refine any_allX [17] (by kernel_rfl) rfl ?_
                  refine ⟨⟨_, rfl, ?_⟩, trivial⟩
                  · skip
                    refine ops_y hH112 rfl rfl (yv_field T.f41_1 rfl) ?_
                    refine ops_nil ?_
                    refine ⟨(fun h => by cases h), ?_⟩
                    refine any_allX [18] (by kernel_rfl) rfl ?_
                    refine ⟨⟨_, rfl, ?_⟩, trivial⟩
                    · skip
                      refine op_store (n := 6) (j := 1) (us := [u101]) rfl rfl hH112 rfl T.sz39 (SliceIs.cells (Heap.rdw T.el39_encI hH112 (n := 0) rfl).is) rfl rfl (SliceIs.one (Heap.rdw T.el39_encI hH112 (n := 0) rfl).is) (fun w113 hH114 => ?_)
                      refine ops_nil ?_
                      refine ⟨(fun h => by cases h), ?_⟩
                      refine any_allX [19] (by kernel_rfl) rfl ?_
                      refine ⟨⟨_, rfl, ?_⟩, trivial⟩
                      · skip
                        refine ops_y hH114 rfl rfl (yv_field T.f41_2 rfl) ?_
                        refine ops_nil ?_
                        refine ⟨(fun h => by cases h), ?_⟩
                        refine any_allX [20] (by kernel_rfl) rfl ?_
                        refine ⟨⟨_, rfl, ?_⟩, trivial⟩
                        · skip
                          refine op_store (n := 6) (j := 2) (us := [u106]) rfl rfl hH114 rfl T.sz39 (SliceIs.cells (Heap.rdw T.el39_encI hH114 (n := 3) rfl).is) rfl rfl (SliceIs.one (Heap.rdw T.el39_encI hH114 (n := 3) rfl).is) (fun w115 hH116 => ?_)
                          refine ops_nil ?_
                          refine ⟨(fun h => by cases h), ?_⟩
                          refine any_doneX (by kernel_rfl) ?_
                          refine blk_n ?_
                          refine thn_n ?_
                          refine region ?_
                          refine ops_y hH116 rfl rfl (yv_move rfl) ?_
                          refine ops_y hH116 rfl rfl (yv_add rfl rfl (by omega)) ?_
                          refine ops_y hH116 rfl rfl (yv_assign rfl) ?_
                          refine ops_nil ?_
                          have hH117 := hH116.front (n := 8) rfl
                          have hH118 := hH117.front (n := 8) rfl
                          have hH119 := hH118.front (n := 8) rfl
                          have hH120 := hH119.front (n := 4) rfl
                          have hH121 := hH120.front (n := 4) rfl
                          have hH122 := hH121.front (n := 6) rfl
                          have hH123 := (hH122.sub (List.Sublist.cons_cons _ (List.Sublist.cons_cons _ (List.Sublist.cons_cons _ (List.Sublist.cons_cons _ (List.Sublist.cons_cons _ (List.Sublist.cons_cons _ (List.nil_sublist _))))))))
                          refine lp_n (k + 1, u94, lo95, hi96, u101, lo102, hi103, u106, lo108, hi109) (Sub.cons rfl (Sub.cons rfl (Sub.cons rfl (Sub.cons rfl (Sub.cons rfl (Sub.nil _)))))) ?_ ?_
                          · exact ⟨(Heap.recast (n := 0) (Heap.recast (n := 1) (Heap.recast (n := 2) hH123 rfl (by first | exact S.ordB_t hpos (by first | rfl | (unfold S.pick; rw [Int.add_zero])) | exact S.ordB_f (by omega))) rfl (by first | exact S.ordU_t hpos (by first | rfl | (unfold S.pick; rw [Int.add_zero])) | exact S.ordU_f (by omega))) rfl (by first | exact S.ordF_t hpos (by first | rfl | (unfold S.pick; rw [Int.add_zero])) | exact S.ordF_f (by omega))), by omega⟩
                          · first | (dsimp only; omega) | (show _ < _; omega)
      · skip
        refine cond_f rfl (decide_eq_false hc13) ?_
        refine skip ?_
        refine thn_n ?_
        refine region_drawX (fun w' => Heap [bx b4 41 [v_b5_0, v_b5_1, v_b5_2], bx b1 41 [(.slice none 0 0), (.slice none 0 0), (.slice none 0 0)], base w] w') [16, 17, 18, 19, 20] T.mixed (fun w124 hr125 => ?_)
        have hH126 := hH11.redrawn hr125
        refine any_takesX [0, 1, 2, 3, 5, 6, 7, 8, 10, 11, 12] (by kernel_rfl) (hH126.sub (List.Sublist.cons _ (List.Sublist.cons _ (List.Sublist.cons _ (List.Sublist.refl _))))) _ _ _ (by kernel_rfl) ?_
        refine qs_y rfl rfl (yv_field T.f41_0 rfl) ?_
        refine qs_y rfl rfl (yv_load T.one39 rfl (fun _ hw => Heap.cellw hw (n := 0) rfl rfl)) ?_
        refine qs_y rfl rfl (yv_move rfl) ?_
        refine qs_y rfl rfl (yv_move rfl) ?_
        refine qs_y rfl rfl (yv_field T.f41_1 rfl) ?_
        refine qs_y rfl rfl (yv_load T.one39 rfl (fun _ hw => Heap.cellw hw (n := 0) rfl rfl)) ?_
        refine qs_y rfl rfl (yv_move rfl) ?_
        refine qs_y rfl rfl (yv_move rfl) ?_
        refine qs_y rfl rfl (yv_field T.f41_2 rfl) ?_
        refine qs_y rfl rfl (yv_load T.one39 rfl (fun _ hw => Heap.cellw hw (n := 0) rfl rfl)) ?_
        refine qs_y rfl rfl (yv_move rfl) ?_
        refine qs_nil ?_
        refine any_allX [4, 13] (by kernel_rfl) rfl ?_
        refine ⟨⟨_, rfl, ?_⟩, ⟨_, rfl, ?_⟩, trivial⟩
        · skip
          refine op_fn rfl rfl rfl hH126 (c80 (Heap.rdw T.el39_encI hH126 (n := 2) rfl) (by omega) (by omega)) (fun u129 w127 lo130 hi131 hH128 hv132 => ?_)
          have hH133 := Heap.toOw hH128 (n := 0) rfl
          refine ops_nil ?_
          refine ⟨fun _ => (hH133.sub (List.Sublist.cons _ (List.Sublist.cons _ (List.Sublist.cons _ (List.Sublist.cons _ (List.Sublist.refl _)))))), ?_⟩
          refine any_takesX [15] (by kernel_rfl) (hH133.sub (List.Sublist.cons _ (List.Sublist.cons _ (List.Sublist.cons _ (List.Sublist.cons _ (List.Sublist.refl _)))))) _ _ _ (by kernel_rfl) ?_
          refine qs_y rfl rfl (yv_field T.f41_0 rfl) ?_
          refine qs_nil ?_
          refine any_allX [9, 13] (by kernel_rfl) rfl ?_
          refine ⟨⟨_, rfl, ?_⟩, ⟨_, rfl, ?_⟩, trivial⟩
          · skip
            refine op_fn rfl rfl rfl hH133 (c80 (Heap.rdw T.el39_encI hH133 (n := 2) rfl) (by omega) (by omega)) (fun u136 w134 lo137 hi138 hH135 hv139 => ?_)
            have hH140 := Heap.toOw hH135 (n := 0) rfl
            refine ops_nil ?_
            refine ⟨fun _ => (hH140.sub (List.Sublist.cons _ (List.Sublist.cons _ (List.Sublist.cons _ (List.Sublist.cons _ (List.Sublist.cons _ (List.Sublist.refl _))))))), ?_⟩
            refine any_allX [13] (by kernel_rfl) rfl ?_
            refine ⟨⟨_, rfl, ?_⟩, trivial⟩
            · skip
              refine op_lit (us := [(0, (.int .i64 0))]) T.el39_encI [0] rfl (by decide) rfl (fun a ha => by simp [ha.ev (show ev _ (.tmp 68) = some _ from rfl)]) (fun w => by kernel_rfl) hH140 (fun u141 lo143 hi144 w142 hH145 => ?_)
              refine ops_nil ?_
              refine ⟨fun _ => (hH145.sub (List.Sublist.cons _ (List.Sublist.cons _ (List.Sublist.cons _ (List.Sublist.cons _ (List.Sublist.cons _ (List.Sublist.cons _ (List.Sublist.refl _)))))))), ?_⟩
              refine any_allX [14] (by kernel_rfl) rfl ?_
              refine ⟨⟨_, rfl, ?_⟩, trivial⟩
              · skip
                refine op_append (n := 3) T.el39_encI rfl rfl rfl hH145 rfl (Heap.rdw T.el39_encI hH145 (n := 0) rfl) (by first | omega | (simp only [List.length_append, List.length_cons, List.length_nil]; omega)) (fun u146 lo148 hi149 w147 hH150 => ?_)
                refine ops_nil ?_
                refine ⟨fun _ => (hH150.sub (List.Sublist.cons _ (List.Sublist.cons _ (List.Sublist.cons _ (List.Sublist.cons _ (List.Sublist.cons _ (List.Sublist.cons _ (List.Sublist.refl _)))))))), ?_⟩
                refine any_allX [16] (by kernel_rfl) rfl ?_
                refine ⟨⟨_, rfl, ?_⟩, trivial⟩
                · skip
                  refine op_store (n := 6) (j := 0) (us := [u129]) rfl rfl hH150 rfl T.sz39 (SliceIs.cells (Heap.rdw T.el39_encI hH150 (n := 2) rfl).is) rfl rfl (SliceIs.one (Heap.rdw T.el39_encI hH150 (n := 2) rfl).is) (fun w151 hH152 => ?_)
                  refine ops_nil ?_
                  refine ⟨(fun h => by cases h), ?_⟩
                  refine any_allX [17] (by kernel_rfl) rfl ?_
                  refine ⟨⟨_, rfl, ?_⟩, trivial⟩
                  · skip
                    refine ops_y hH152 rfl rfl (yv_field T.f41_1 rfl) ?_
                    refine ops_nil ?_
                    refine ⟨(fun h => by cases h), ?_⟩
                    refine any_allX [18] (by kernel_rfl) rfl ?_
                    refine ⟨⟨_, rfl, ?_⟩, trivial⟩
                    · skip
                      refine op_store (n := 6) (j := 1) (us := [u136]) rfl rfl hH152 rfl T.sz39 (SliceIs.cells (Heap.rdw T.el39_encI hH152 (n := 1) rfl).is) rfl rfl (SliceIs.one (Heap.rdw T.el39_encI hH152 (n := 1) rfl).is) (fun w153 hH154 => ?_)
                      refine ops_nil ?_
                      refine ⟨(fun h => by cases h), ?_⟩
                      refine any_allX [19] (by kernel_rfl) rfl ?_
                      refine ⟨⟨_, rfl, ?_⟩, trivial⟩
                      · skip
                        refine ops_y hH154 rfl rfl (yv_field T.f41_2 rfl) ?_
                        refine ops_nil ?_
                        refine ⟨(fun h => by cases h), ?_⟩
                        refine any_allX [20] (by kernel_rfl) rfl ?_
                        refine ⟨⟨_, rfl, ?_⟩, trivial⟩
                        · skip
                          refine op_store (n := 6) (j := 2) (us := [u146]) rfl rfl hH154 rfl T.sz39 (SliceIs.cells (Heap.rdw T.el39_encI hH154 (n := 3) rfl).is) rfl rfl (SliceIs.one (Heap.rdw T.el39_encI hH154 (n := 3) rfl).is) (fun w155 hH156 => ?_)
                          refine ops_nil ?_
                          refine ⟨(fun h => by cases h), ?_⟩
                          refine any_doneX (by kernel_rfl) ?_
                          refine blk_n ?_
                          refine thn_n ?_
                          refine region ?_
                          refine ops_y hH156 rfl rfl (yv_move rfl) ?_
                          refine ops_y hH156 rfl rfl (yv_add rfl rfl (by omega)) ?_
                          refine ops_y hH156 rfl rfl (yv_assign rfl) ?_
                          refine ops_nil ?_
                          have hH157 := hH156.front (n := 8) rfl
                          have hH158 := hH157.front (n := 8) rfl
                          have hH159 := hH158.front (n := 8) rfl
                          have hH160 := hH159.front (n := 5) rfl
                          have hH161 := hH160.front (n := 5) rfl
                          have hH162 := hH161.front (n := 6) rfl
                          have hH163 := (hH162.sub (List.Sublist.cons_cons _ (List.Sublist.cons_cons _ (List.Sublist.cons_cons _ (List.Sublist.cons_cons _ (List.Sublist.cons_cons _ (List.Sublist.cons_cons _ (List.nil_sublist _))))))))
                          refine lp_n (k + 1, u129, lo130, hi131, u136, lo137, hi138, u146, lo148, hi149) (Sub.cons rfl (Sub.cons rfl (Sub.cons rfl (Sub.cons rfl (Sub.cons rfl (Sub.nil _)))))) ?_ ?_
                          · exact ⟨(Heap.recast (n := 0) (Heap.recast (n := 1) (Heap.recast (n := 2) hH163 rfl (by first | exact S.ordB_t hpos (by first | rfl | (unfold S.pick; rw [Int.add_zero])) | exact S.ordB_f (by omega))) rfl (by first | exact S.ordU_t hpos (by first | rfl | (unfold S.pick; rw [Int.add_zero])) | exact S.ordU_f (by omega))) rfl (by first | exact S.ordF_t hpos (by first | rfl | (unfold S.pick; rw [Int.add_zero])) | exact S.ordF_f (by omega))), by omega⟩
                          · first | (dsimp only; omega) | (show _ < _; omega)
          · skip
            refine op_lit (us := [(0, (.int .i64 0))]) T.el39_encI [0] rfl (by decide) rfl (fun a ha => by simp [ha.ev (show ev _ (.tmp 68) = some _ from rfl)]) (fun w => by kernel_rfl) hH133 (fun u164 lo166 hi167 w165 hH168 => ?_)
            refine ops_nil ?_
            refine ⟨fun _ => (hH168.sub (List.Sublist.cons _ (List.Sublist.cons _ (List.Sublist.cons _ (List.Sublist.cons _ (List.Sublist.cons _ (List.Sublist.refl _))))))), ?_⟩
            refine any_allX [9] (by kernel_rfl) rfl ?_
            refine ⟨⟨_, rfl, ?_⟩, trivial⟩
            · skip
              refine op_fn rfl rfl rfl hH168 (c80 (Heap.rdw T.el39_encI hH168 (n := 3) rfl) (by omega) (by omega)) (fun u171 w169 lo172 hi173 hH170 hv174 => ?_)
              have hH175 := Heap.toOw hH170 (n := 0) rfl
              refine ops_nil ?_
              refine ⟨fun _ => (hH175.sub (List.Sublist.cons _ (List.Sublist.cons _ (List.Sublist.cons _ (List.Sublist.cons _ (List.Sublist.cons _ (List.Sublist.cons _ (List.Sublist.refl _)))))))), ?_⟩
              refine any_allX [14] (by kernel_rfl) rfl ?_
              refine ⟨⟨_, rfl, ?_⟩, trivial⟩
              · skip
                refine op_append (n := 3) T.el39_encI rfl rfl rfl hH175 rfl (Heap.rdw T.el39_encI hH175 (n := 1) rfl) (by first | omega | (simp only [List.length_append, List.length_cons, List.length_nil]; omega)) (fun u176 lo178 hi179 w177 hH180 => ?_)
                refine ops_nil ?_
                refine ⟨fun _ => (hH180.sub (List.Sublist.cons _ (List.Sublist.cons _ (List.Sublist.cons _ (List.Sublist.cons _ (List.Sublist.cons _ (List.Sublist.cons _ (List.Sublist.refl _)))))))), ?_⟩
                refine any_allX [16] (by kernel_rfl) rfl ?_
                refine ⟨⟨_, rfl, ?_⟩, trivial⟩
                · skip
                  refine op_store (n := 6) (j := 0) (us := [u129]) rfl rfl hH180 rfl T.sz39 (SliceIs.cells (Heap.rdw T.el39_encI hH180 (n := 2) rfl).is) rfl rfl (SliceIs.one (Heap.rdw T.el39_encI hH180 (n := 2) rfl).is) (fun w181 hH182 => ?_)
                  refine ops_nil ?_
                  refine ⟨(fun h => by cases h), ?_⟩
                  refine any_allX [17] (by kernel_rfl) rfl ?_
                  refine ⟨⟨_, rfl, ?_⟩, trivial⟩
                  · skip
                    refine ops_y hH182 rfl rfl (yv_field T.f41_1 rfl) ?_
                    refine ops_nil ?_
                    refine ⟨(fun h => by cases h), ?_⟩
                    refine any_allX [18] (by kernel_rfl) rfl ?_
                    refine ⟨⟨_, rfl, ?_⟩, trivial⟩
                    · skip
                      refine op_store (n := 6) (j := 1) (us := [u171]) rfl rfl hH182 rfl T.sz39 (SliceIs.cells (Heap.rdw T.el39_encI hH182 (n := 0) rfl).is) rfl rfl (SliceIs.one (Heap.rdw T.el39_encI hH182 (n := 0) rfl).is) (fun w183 hH184 => ?_)
                      refine ops_nil ?_
                      refine ⟨(fun h => by cases h), ?_⟩
                      refine any_allX [19] (by kernel_rfl) rfl ?_
                      refine ⟨⟨_, rfl, ?_⟩, trivial⟩
                      · skip
                        refine ops_y hH184 rfl rfl (yv_field T.f41_2 rfl) ?_
                        refine ops_nil ?_
                        refine ⟨(fun h => by cases h), ?_⟩
                        refine any_allX [20] (by kernel_rfl) rfl ?_
                        refine ⟨⟨_, rfl, ?_⟩, trivial⟩
                        · skip
                          refine op_store (n := 6) (j := 2) (us := [u176]) rfl rfl hH184 rfl T.sz39 (SliceIs.cells (Heap.rdw T.el39_encI hH184 (n := 3) rfl).is) rfl rfl (SliceIs.one (Heap.rdw T.el39_encI hH184 (n := 3) rfl).is) (fun w185 hH186 => ?_)
                          refine ops_nil ?_
                          refine ⟨(fun h => by cases h), ?_⟩
                          refine any_doneX (by kernel_rfl) ?_
                          refine blk_n ?_
                          refine thn_n ?_
                          refine region ?_
                          refine ops_y hH186 rfl rfl (yv_move rfl) ?_
                          refine ops_y hH186 rfl rfl (yv_add rfl rfl (by omega)) ?_
                          refine ops_y hH186 rfl rfl (yv_assign rfl) ?_
                          refine ops_nil ?_
                          have hH187 := hH186.front (n := 8) rfl
                          have hH188 := hH187.front (n := 8) rfl
                          have hH189 := hH188.front (n := 8) rfl
                          have hH190 := hH189.front (n := 5) rfl
                          have hH191 := hH190.front (n := 4) rfl
                          have hH192 := hH191.front (n := 6) rfl
                          have hH193 := (hH192.sub (List.Sublist.cons_cons _ (List.Sublist.cons_cons _ (List.Sublist.cons_cons _ (List.Sublist.cons_cons _ (List.Sublist.cons_cons _ (List.Sublist.cons_cons _ (List.nil_sublist _))))))))
                          refine lp_n (k + 1, u129, lo130, hi131, u171, lo172, hi173, u176, lo178, hi179) (Sub.cons rfl (Sub.cons rfl (Sub.cons rfl (Sub.cons rfl (Sub.cons rfl (Sub.nil _)))))) ?_ ?_
                          · exact ⟨(Heap.recast (n := 0) (Heap.recast (n := 1) (Heap.recast (n := 2) hH193 rfl (by first | exact S.ordB_t hpos (by first | rfl | (unfold S.pick; rw [Int.add_zero])) | exact S.ordB_f (by omega))) rfl (by first | exact S.ordU_t hpos (by first | rfl | (unfold S.pick; rw [Int.add_zero])) | exact S.ordU_f (by omega))) rfl (by first | exact S.ordF_t hpos (by first | rfl | (unfold S.pick; rw [Int.add_zero])) | exact S.ordF_f (by omega))), by omega⟩
                          · first | (dsimp only; omega) | (show _ < _; omega)
        · skip
          refine op_lit (us := [(0, (.int .i64 0))]) T.el39_encI [0] rfl (by decide) rfl (fun a ha => by simp [ha.ev (show ev _ (.tmp 68) = some _ from rfl)]) (fun w => by kernel_rfl) hH126 (fun u194 lo196 hi197 w195 hH198 => ?_)
          refine ops_nil ?_
          refine ⟨fun _ => (hH198.sub (List.Sublist.cons _ (List.Sublist.cons _ (List.Sublist.cons _ (List.Sublist.cons _ (List.Sublist.refl _)))))), ?_⟩
          refine any_allX [4] (by kernel_rfl) rfl ?_
          refine ⟨⟨_, rfl, ?_⟩, trivial⟩
          · skip
            refine op_fn rfl rfl rfl hH198 (c80 (Heap.rdw T.el39_encI hH198 (n := 3) rfl) (by omega) (by omega)) (fun u201 w199 lo202 hi203 hH200 hv204 => ?_)
            have hH205 := Heap.toOw hH200 (n := 0) rfl
            refine ops_nil ?_
            refine ⟨fun _ => (hH205.sub (List.Sublist.cons _ (List.Sublist.cons _ (List.Sublist.cons _ (List.Sublist.cons _ (List.Sublist.cons _ (List.Sublist.refl _))))))), ?_⟩
            refine any_takesX [15] (by kernel_rfl) (hH205.sub (List.Sublist.cons _ (List.Sublist.cons _ (List.Sublist.cons _ (List.Sublist.cons _ (List.Sublist.cons _ (List.Sublist.refl _))))))) _ _ _ (by kernel_rfl) ?_
            refine qs_y rfl rfl (yv_field T.f41_0 rfl) ?_
            refine qs_nil ?_
            refine any_allX [9] (by kernel_rfl) rfl ?_
            refine ⟨⟨_, rfl, ?_⟩, trivial⟩
            · skip
              refine op_fn rfl rfl rfl hH205 (c80 (Heap.rdw T.el39_encI hH205 (n := 3) rfl) (by omega) (by omega)) (fun u208 w206 lo209 hi210 hH207 hv211 => ?_)
              have hH212 := Heap.toOw hH207 (n := 0) rfl
              refine ops_nil ?_
              refine ⟨fun _ => (hH212.sub (List.Sublist.cons _ (List.Sublist.cons _ (List.Sublist.cons _ (List.Sublist.cons _ (List.Sublist.cons _ (List.Sublist.cons _ (List.Sublist.refl _)))))))), ?_⟩
              refine any_allX [14] (by kernel_rfl) rfl ?_
              refine ⟨⟨_, rfl, ?_⟩, trivial⟩
              · skip
                refine op_append (n := 3) T.el39_encI rfl rfl rfl hH212 rfl (Heap.rdw T.el39_encI hH212 (n := 2) rfl) (by first | omega | (simp only [List.length_append, List.length_cons, List.length_nil]; omega)) (fun u213 lo215 hi216 w214 hH217 => ?_)
                refine ops_nil ?_
                refine ⟨fun _ => (hH217.sub (List.Sublist.cons _ (List.Sublist.cons _ (List.Sublist.cons _ (List.Sublist.cons _ (List.Sublist.cons _ (List.Sublist.cons _ (List.Sublist.refl _)))))))), ?_⟩
                refine any_allX [16] (by kernel_rfl) rfl ?_
                refine ⟨⟨_, rfl, ?_⟩, trivial⟩
                · skip
                  refine op_store (n := 6) (j := 0) (us := [u201]) rfl rfl hH217 rfl T.sz39 (SliceIs.cells (Heap.rdw T.el39_encI hH217 (n := 1) rfl).is) rfl rfl (SliceIs.one (Heap.rdw T.el39_encI hH217 (n := 1) rfl).is) (fun w218 hH219 => ?_)
                  refine ops_nil ?_
                  refine ⟨(fun h => by cases h), ?_⟩
                  refine any_allX [17] (by kernel_rfl) rfl ?_
                  refine ⟨⟨_, rfl, ?_⟩, trivial⟩
                  · skip
                    refine ops_y hH219 rfl rfl (yv_field T.f41_1 rfl) ?_
                    refine ops_nil ?_
                    refine ⟨(fun h => by cases h), ?_⟩
                    refine any_allX [18] (by kernel_rfl) rfl ?_
                    refine ⟨⟨_, rfl, ?_⟩, trivial⟩
                    · skip
                      refine op_store (n := 6) (j := 1) (us := [u208]) rfl rfl hH219 rfl T.sz39 (SliceIs.cells (Heap.rdw T.el39_encI hH219 (n := 0) rfl).is) rfl rfl (SliceIs.one (Heap.rdw T.el39_encI hH219 (n := 0) rfl).is) (fun w220 hH221 => ?_)
                      refine ops_nil ?_
                      refine ⟨(fun h => by cases h), ?_⟩
                      refine any_allX [19] (by kernel_rfl) rfl ?_
                      refine ⟨⟨_, rfl, ?_⟩, trivial⟩
                      · skip
                        refine ops_y hH221 rfl rfl (yv_field T.f41_2 rfl) ?_
                        refine ops_nil ?_
                        refine ⟨(fun h => by cases h), ?_⟩
                        refine any_allX [20] (by kernel_rfl) rfl ?_
                        refine ⟨⟨_, rfl, ?_⟩, trivial⟩
                        · skip
                          refine op_store (n := 6) (j := 2) (us := [u213]) rfl rfl hH221 rfl T.sz39 (SliceIs.cells (Heap.rdw T.el39_encI hH221 (n := 3) rfl).is) rfl rfl (SliceIs.one (Heap.rdw T.el39_encI hH221 (n := 3) rfl).is) (fun w222 hH223 => ?_)
                          refine ops_nil ?_
                          refine ⟨(fun h => by cases h), ?_⟩
                          refine any_doneX (by kernel_rfl) ?_
                          refine blk_n ?_
                          refine thn_n ?_
                          refine region ?_
                          refine ops_y hH223 rfl rfl (yv_move rfl) ?_
                          refine ops_y hH223 rfl rfl (yv_add rfl rfl (by omega)) ?_
                          refine ops_y hH223 rfl rfl (yv_assign rfl) ?_
                          refine ops_nil ?_
                          have hH224 := hH223.front (n := 8) rfl
                          have hH225 := hH224.front (n := 8) rfl
                          have hH226 := hH225.front (n := 8) rfl
                          have hH227 := hH226.front (n := 4) rfl
                          have hH228 := hH227.front (n := 4) rfl
                          have hH229 := hH228.front (n := 6) rfl
                          have hH230 := (hH229.sub (List.Sublist.cons_cons _ (List.Sublist.cons_cons _ (List.Sublist.cons_cons _ (List.Sublist.cons_cons _ (List.Sublist.cons_cons _ (List.Sublist.cons_cons _ (List.nil_sublist _))))))))
                          refine lp_n (k + 1, u201, lo202, hi203, u208, lo209, hi210, u213, lo215, hi216) (Sub.cons rfl (Sub.cons rfl (Sub.cons rfl (Sub.cons rfl (Sub.cons rfl (Sub.nil _)))))) ?_ ?_
                          · exact ⟨(Heap.recast (n := 0) (Heap.recast (n := 1) (Heap.recast (n := 2) hH230 rfl (by first | exact S.ordB_t hpos (by first | rfl | (unfold S.pick; rw [Int.add_zero])) | exact S.ordB_f (by omega))) rfl (by first | exact S.ordU_t hpos (by first | rfl | (unfold S.pick; rw [Int.add_zero])) | exact S.ordU_f (by omega))) rfl (by first | exact S.ordF_t hpos (by first | rfl | (unfold S.pick; rw [Int.add_zero])) | exact S.ordF_f (by omega))), by omega⟩
                          · first | (dsimp only; omega) | (show _ < _; omega)
    · skip
      refine cond_f rfl (decide_eq_false hc12) ?_
      refine exit ?_
      refine thn_x ?_
      refine lp_x ?_
      refine blk_here ?_
      refine thn_n ?_
      refine seq ?_
      refine region ?_
      refine ops_y hH11 rfl rfl (yv_loadA (cs := [v_b5_0, v_b5_1, v_b5_2]) T.agg41 rfl rfl (fun _ hw => Heap.cellsw hw (n := 3) rfl (k := 0) rfl)) ?_
      refine op_store (n := 4) (j := 0) (us := [v_b5_0, v_b5_1, v_b5_2]) rfl rfl hH11 rfl T.sz41 rfl rfl rfl (all_one (SliceIs.one1 (Heap.rdw T.el39_encI hH11 (n := 2) rfl).is) (all_one (SliceIs.one1 (Heap.rdw T.el39_encI hH11 (n := 1) rfl).is) (all_one (SliceIs.one1 (Heap.rdw T.el39_encI hH11 (n := 0) rfl).is) rfl))) (fun w231 hH232 => ?_)
      refine ops_nil ?_
      refine thn_n ?_
      refine ret ?_
      have hH233 := (hH232.sub (List.Sublist.cons_cons _ (List.Sublist.cons_cons _ (List.Sublist.cons_cons _ (List.Sublist.cons _ (List.Sublist.refl _))))))
      refine fin (hH233.front (n := 4) rfl) (fun w' hf => (res1 rfl (rvA (cs := [v_b5_0, v_b5_1, v_b5_2]) rfl T.agg41 rfl (bx_cells (Heap.bxw hf (n := 4) rfl) (k := 0) rfl)))) (fun w' hf => ?_)
      have hk2 : k = n := by omega
      subst hk2
      exact ⟨_, _, _, rfl, Heap.rdw T.el39_encI hf (n := 2) rfl, Heap.rdw T.el39_encI hf (n := 1) rfl, Heap.rdw T.el39_encI hf (n := 0) rfl⟩

end Go.Fip
