/- Walks, by program (wip/tools). -/
import Derived.Test.YtlekkopaeiblfaaWk
set_option linter.unusedVariables false
set_option linter.unusedSimpArgs false
set_option linter.unusedSectionVars false
set_option linter.unnecessarySimpa false
namespace Go.Fip
open Go.Proofs Go.RowKit

theorem Heap.agg3 {E sz n lo hi : Nat} {b t f : Value} {xs : List Int} {enc : Int → List Value} {H : List Item} {w : World} (hH : Heap H w)
    (hn : H[n]? = some ⟨lo, hi, fun w => ∃ q, (Value.agg #[b, t, f] : Value) = .agg #[b, t, q] ∧ Own E sz enc q xs w⟩) : Heap (H.set n (ow lo hi E sz enc f xs)) w := by
  have h1 := hH.weaken hn (φ := Own E sz enc f xs) (fun w' h => by
    obtain ⟨q, e, h⟩ := h
    cases e
    exact h)
  have hlt : n < H.length := (List.getElem?_eq_some_iff.1 hn).1
  have h2 := Heap.toOw (n := n) h1 (by rw [List.getElem?_set_self hlt])
  rwa [List.set_set] at h2
/-- Three rows to be read. -/
def Rd3 (b t f : Value) (B U F : List Int) (w : World) : Prop := Rd encI 1 b B w ∧ Rd encI 1 t U w ∧ Rd encI 1 f F w
theorem Heap.rd3 {n lo hi : Nat} {b t f : Value} {B U F : List Int} {H : List Item} {w : World} (hH : Heap H w)
    (hn : H[n]? = some ⟨lo, hi, fun w => ∃ b' t' f', (Value.agg #[b, t, f] : Value) = .agg #[b', t', f'] ∧ Rd3 b' t' f' B U F w⟩) : Heap (H.set n ⟨lo, hi, Rd3 b t f B U F⟩) w :=
  hH.weaken hn (φ := Rd3 b t f B U F) (fun w' h => by
    obtain ⟨b', t', f', e, h⟩ := h
    cases e
    exact h)
theorem Heap.getRd3 {n lo hi : Nat} {b t f : Value} {B U F : List Int} {H : List Item} {w : World} (hH : Heap H w) (hn : H[n]? = some ⟨lo, hi, Rd3 b t f B U F⟩) : Rd3 b t f B U F w := hH.get hn

theorem c71 {v : Value} {js : List S.Pr} {w : World} (h0 : Rd encP 2 v js w) (hj : S.Jobs js)  :
    Fn Try.prog 71 [v].toArray w (fun u w => ∃ b t f, u = .agg #[b, t, f] ∧ Rd3 b t f (S.planOrd js).1 (S.planOrd js).2.1 (S.planOrd js).2.2 w) := by
  refine fn_of' (args := [v]) Try.func71 rfl (ent Try.func71 (by kernel_rfl) rfl) rfl rfl (fun hH => ?_)
  have hl1 := hj.1
  have hl8 := hj.2.1
  refine seq ?_
  refine region ?_
  refine op_box (us := [v]) rfl (SliceIs.cells (h0.now hH (n := 0) rfl).is) rfl hH (fun b1 w2 hH3 => ?_)
  refine op_alloc (z := (.agg #[(.slice none 0 0), (.slice none 0 0), (.slice none 0 0)])) (us := [(.slice none 0 0), (.slice none 0 0), (.slice none 0 0)]) (fun _ => by kernel_rfl) rfl rfl hH3 (fun b4 w5 hH6 => ?_)
  refine ops_nil ?_
  refine thn_n ?_
  refine seq ?_
  refine region ?_
  refine ops_y hH6 rfl rfl (yv_assign rfl) ?_
  refine ops_y hH6 rfl rfl (yv_assign rfl) ?_
  refine ops_nil ?_
  refine thn_n ?_
  refine seq ?_
  refine seq ?_
  refine region ?_
  refine ops_y hH6 rfl rfl (yv_load T.one22 rfl (fun _ hw => Heap.cellw hw (n := 1) rfl rfl)) ?_
  refine ops_y hH6 rfl rfl (yv_len T.sl22 rfl (h0.now hH6 (n := 2) rfl).is) ?_
  refine ops_y hH6 rfl rfl (yv_move rfl) ?_
  refine ops_nil ?_
  refine thn_n ?_
  refine block ?_
  have hH7 := ow_nil (enc := encI) 3 1 hH6
  have hH8 := ow_nil (enc := encI) 3 1 hH7
  refine loop (S := Nat × Value × Nat × Nat × Value × Nat × Nat) (fun (k, v_3, lo_3, hi_3, v_4, lo_4, hi_4) => [(15, (.int .i64 (k : Int))), (3, v_3), (4, v_4), (1, (.pointer (some ⟨b1, 0, none⟩))), (2, (.pointer (some ⟨b4, 0, none⟩))), (13, v), (14, (.int .i64 (js.length : Int)))]) (fun (k, v_3, lo_3, hi_3, v_4, lo_4, hi_4) w1 => Heap [ow lo_4 hi_4 3 1 encI v_4 (S.longsTo js k), ow lo_3 hi_3 3 1 encI v_3 (S.shortsTo js k), bx b4 41 [(.slice none 0 0), (.slice none 0 0), (.slice none 0 0)], bx b1 22 [v], base w] w1 ∧ k ≤ js.length) (fun (k, v_3, lo_3, hi_3, v_4, lo_4, hi_4) => js.length - k) (0, (.slice none 0 0), w5.heap.size, w5.heap.size, (.slice none 0 0), w5.heap.size, w5.heap.size) (Sub.cons rfl (Sub.cons rfl (Sub.cons rfl (Sub.cons rfl (Sub.cons rfl (Sub.cons rfl (Sub.cons rfl (Sub.nil _)))))))) ?_ ?_
  · exact ⟨(Heap.recast (n := 0) (Heap.recast (n := 1) hH8 rfl (rfl)) rfl (rfl)), by omega⟩
  · rintro ⟨k, v_3, lo_3, hi_3, v_4, lo_4, hi_4⟩ w9 ⟨hH10, hk⟩
    show Holds _ _ _ _ _ [(15, (.int .i64 (k : Int))), (3, v_3), (4, v_4), (1, (.pointer (some ⟨b1, 0, none⟩))), (2, (.pointer (some ⟨b4, 0, none⟩))), (13, v), (14, (.int .i64 (js.length : Int)))] _ _
    refine seq ?_
    refine region ?_
    refine ops_y hH10 rfl rfl (yv_lss rfl rfl) ?_
    refine ops_nil ?_
    refine thn_n ?_
    refine seq ?_
    by_cases hc11 : (k : Int) < (js.length : Int)
    · skip
      refine cond_t rfl (decide_eq_true hc11) ?_
      refine skip ?_
      refine thn_n ?_
      refine seq ?_
      refine block ?_
      refine seq ?_
      refine region ?_
      refine ops_y hH10 rfl rfl (yv_move rfl) ?_
      refine ops_y hH10 rfl rfl (yv_index T.sl22 rfl rfl (h0.now hH10 (n := 4) rfl).is (by omega)) ?_
      refine ops_y hH10 rfl rfl (yv_loadA (cs := [(.int .i64 ((nth js (k : Int)).1)), (.int .i64 ((nth js (k : Int)).2))]) T.agg71 rfl rfl (fun _ hw => Rd.atA (h0.now hw (n := 4) rfl) (i := (k : Int)) (by omega))) ?_
      refine op_alloc (z := (.agg #[(.int .i64 0), (.int .i64 0)])) (us := [(.int .i64 0), (.int .i64 0)]) (fun _ => by kernel_rfl) rfl rfl hH10 (fun b12 w13 hH14 => ?_)
      refine ops_y hH14 rfl rfl (yv_assign rfl) ?_
      refine op_store (n := 0) (j := 0) (us := [(.int .i64 ((nth js (k : Int)).1)), (.int .i64 ((nth js (k : Int)).2))]) rfl rfl hH14 rfl T.sz71 rfl rfl rfl (by rfl) (fun w15 hH16 => ?_)
      refine ops_nil ?_
      refine thn_n ?_
      refine seq ?_
      have hpk := S.parts_length (l := js) k
      refine region ?_
      refine ops_y hH16 rfl rfl (yv_field T.f71_0 rfl) ?_
      refine ops_y hH16 rfl rfl (yv_load T.one2 rfl (fun _ hw => Heap.cellw hw (n := 0) rfl rfl)) ?_
      refine ops_y hH16 rfl rfl (yv_field T.f71_1 rfl) ?_
      refine ops_y hH16 rfl rfl (yv_load T.one2 rfl (fun _ hw => Heap.cellw hw (n := 0) rfl rfl)) ?_
      refine ops_y hH16 rfl rfl (yv_leq rfl rfl) ?_
      refine ops_nil ?_
      refine thn_n ?_
      by_cases hc17 : ((nth js (k : Int)).1) ≤ ((nth js (k : Int)).2)
      · skip
        refine cond_t rfl (decide_eq_true hc17) ?_
        refine region ?_
        refine ops_y hH16 rfl rfl (yv_move rfl) ?_
        refine ops_y hH16 rfl rfl (yv_move rfl) ?_
        refine op_lit (us := [(0, (.int .i64 (k : Int)))]) T.el39_encI [(k : Int)] rfl (by decide) rfl (fun a ha => by simp [ha.ev (show ev _ (.tmp 26) = some _ from rfl)]) (fun w => by kernel_rfl) hH16 (fun u18 lo20 hi21 w19 hH22 => ?_)
        refine op_append (n := 3) T.el39_encI rfl rfl rfl hH22 rfl (Heap.rdw T.el39_encI hH22 (n := 0) rfl) (by first | omega | (simp only [List.length_append, List.length_cons, List.length_nil]; omega)) (fun u23 lo25 hi26 w24 hH27 => ?_)
        refine ops_y hH27 rfl rfl (yv_assign rfl) ?_
        refine ops_nil ?_
        refine blk_n ?_
        refine thn_n ?_
        refine region ?_
        refine ops_y hH27 rfl rfl (yv_add rfl rfl (by omega)) ?_
        refine ops_y hH27 rfl rfl (yv_move rfl) ?_
        refine ops_nil ?_
        have hH28 := (hH27.sub (List.Sublist.cons _ (List.Sublist.cons _ (List.Sublist.refl _))))
        refine lp_n (k + 1, u23, lo25, hi26, v_4, lo_4, hi_4) (Sub.cons rfl (Sub.cons rfl (Sub.cons rfl (Sub.cons rfl (Sub.cons rfl (Sub.cons rfl (Sub.cons rfl (Sub.nil _)))))))) ?_ ?_
        · exact ⟨(Heap.recast (n := 0) (Heap.recast (n := 1) hH28 rfl (by first | rw [(S.sh_t ‹_›).1] | rw [(S.sh_f ‹_›).1])) rfl (by first | rw [(S.sh_t ‹_›).2] | rw [(S.sh_f ‹_›).2])), by omega⟩
        · first | (dsimp only; omega) | (show _ < _; omega)
      · skip
        refine cond_f rfl (decide_eq_false hc17) ?_
        refine region ?_
        refine ops_y hH16 rfl rfl (yv_move rfl) ?_
        refine ops_y hH16 rfl rfl (yv_move rfl) ?_
        refine op_lit (us := [(0, (.int .i64 (k : Int)))]) T.el39_encI [(k : Int)] rfl (by decide) rfl (fun a ha => by simp [ha.ev (show ev _ (.tmp 30) = some _ from rfl)]) (fun w => by kernel_rfl) hH16 (fun u29 lo31 hi32 w30 hH33 => ?_)
        refine op_append (n := 2) T.el39_encI rfl rfl rfl hH33 rfl (Heap.rdw T.el39_encI hH33 (n := 0) rfl) (by first | omega | (simp only [List.length_append, List.length_cons, List.length_nil]; omega)) (fun u34 lo36 hi37 w35 hH38 => ?_)
        refine ops_y hH38 rfl rfl (yv_assign rfl) ?_
        refine ops_nil ?_
        refine blk_n ?_
        refine thn_n ?_
        refine region ?_
        refine ops_y hH38 rfl rfl (yv_add rfl rfl (by omega)) ?_
        refine ops_y hH38 rfl rfl (yv_move rfl) ?_
        refine ops_nil ?_
        have hH39 := (hH38.sub (List.Sublist.cons _ (List.Sublist.cons _ (List.Sublist.refl _))))
        refine lp_n (k + 1, v_3, lo_3, hi_3, u34, lo36, hi37) (Sub.cons rfl (Sub.cons rfl (Sub.cons rfl (Sub.cons rfl (Sub.cons rfl (Sub.cons rfl (Sub.cons rfl (Sub.nil _)))))))) ?_ ?_
        · exact ⟨(Heap.recast (n := 0) (Heap.recast (n := 1) hH39 rfl (by first | rw [(S.sh_t ‹_›).1] | rw [(S.sh_f ‹_›).1])) rfl (by first | rw [(S.sh_t ‹_›).2] | rw [(S.sh_f ‹_›).2])), by omega⟩
        · first | (dsimp only; omega) | (show _ < _; omega)
    · skip
      have hk2 : k = js.length := by omega
      have hpk := S.parts_length (l := js) k
      refine cond_f rfl (decide_eq_false hc11) ?_
      refine exit ?_
      refine thn_x ?_
      refine lp_x ?_
      refine blk_here ?_
      refine thn_n ?_
      refine seq ?_
      refine region ?_
      refine ops_y hH10 rfl rfl (yv_func rfl rfl) ?_
      refine ops_y hH10 rfl rfl (yv_assign rfl) ?_
      refine ops_nil ?_
      refine thn_n ?_
      refine seq ?_
      refine region ?_
      refine ops_y hH10 rfl rfl (yv_func rfl rfl) ?_
      refine ops_y hH10 rfl rfl (yv_assign rfl) ?_
      refine ops_nil ?_
      refine thn_n ?_
      refine seq ?_
      refine seq ?_
      have hs1 := S.shortR_in (l := js) (k := k)
      have hs2 := S.longR_in (l := js) (k := k)
      unfold S.shortR at hs1
      unfold S.longR at hs2
      refine region_draw (fun w' => Heap [ow lo_4 hi_4 3 1 encI v_4 (S.longsTo js k), ow lo_3 hi_3 3 1 encI v_3 (S.shortsTo js k), bx b4 41 [(.slice none 0 0), (.slice none 0 0), (.slice none 0 0)], bx b1 22 [v], base w] w') T.mixed (fun w40 hr41 => ?_)
      have hH42 := hH10.redrawn hr41
      refine any_takes [0, 1, 2, 3] (by kernel_rfl) hH42 _ _ _ (by kernel_rfl) ?_
      refine qs_y rfl rfl (yv_move rfl) ?_
      refine qs_y rfl rfl (yv_len T.sl39 rfl (Heap.rdw T.el39_encI hH42 (n := 0) rfl).is) ?_
      refine qs_y rfl rfl (yv_eql rfl rfl) ?_
      refine qs_y rfl rfl (yv_move rfl) ?_
      refine qs_nil ?_
      by_cases hc43 : ((S.longsTo js k).length : Int) = 0
      · skip
        refine any_takes [4, 5, 6, 7, 8, 9, 10, 11, 12, 13, 14, 15, 16, 17, 18, 19, 20, 21, 22, 23, 24] (by kernel_rfl) hH42 _ _ _ (by kernel_rfl) ?_
        refine qs_no rfl rfl rfl (decide_eq_true hc43) rfl ?_
        refine qs_no rfl rfl rfl (decide_eq_true hc43) rfl ?_
        refine qs_no rfl rfl rfl (decide_eq_true hc43) rfl ?_
        refine qs_no rfl rfl rfl (decide_eq_true hc43) rfl ?_
        refine qs_none rfl rfl rfl rfl ?_
        refine qs_none rfl rfl rfl rfl ?_
        refine qs_none rfl rfl rfl rfl ?_
        refine qs_none rfl rfl rfl rfl ?_
        refine qs_none rfl rfl rfl rfl ?_
        refine qs_none rfl rfl rfl rfl ?_
        refine qs_none rfl rfl rfl rfl ?_
        refine qs_none rfl rfl rfl rfl ?_
        refine qs_none rfl rfl rfl rfl ?_
        refine qs_none rfl rfl rfl rfl ?_
        refine qs_none rfl rfl rfl rfl ?_
        refine qs_none rfl rfl rfl rfl ?_
        refine qs_none rfl rfl rfl rfl ?_
        refine qs_none rfl rfl rfl rfl ?_
        refine qs_none rfl rfl rfl rfl ?_
        refine qs_no rfl rfl rfl (decide_eq_true hc43) rfl ?_
        refine qs_y rfl rfl (yv_pick_t rfl (decide_eq_true hc43) rfl) ?_
        refine qs_nil ?_
        refine any_done (by kernel_rfl) ?_
        refine thn_n ?_
        refine cond_t rfl rfl ?_
        refine seq ?_
        have hus : S.useShort js k := by unfold S.useShort S.longR S.shortR; omega
        have hsr := S.shortR_in (l := js) (k := k) (by omega)
        have hfl := List.length_filter_le (fun y : Int => !decide (y = S.shortR js k)) (S.shortsTo js k)
        unfold S.shortR at hfl hsr
        refine region ?_
        refine ops_y hH42 rfl rfl (yv_move rfl) ?_
        refine ops_y hH42 rfl rfl (yv_move rfl) ?_
        refine op_fnV rfl rfl rfl hH42 (c88_86 (Heap.rdw T.el39_encI hH42 (n := 1) rfl) (Heap.bxw hH42 (n := 3) rfl) (h0.now hH42 (n := 4) rfl) (by omega) (by omega) (fun i hi => by have := S.shorts_in i hi; omega)) (fun w44 hH45 => ?_)
        refine ops_y hH45 rfl rfl (yv_assign rfl) ?_
        refine ops_nil ?_
        refine thn_n ?_
        refine seq ?_
        refine region ?_
        refine ops_y hH45 rfl rfl (yv_move rfl) ?_
        refine ops_y hH45 rfl rfl (yv_move rfl) ?_
        refine op_fn rfl rfl rfl hH45 (c89 (Heap.rdw T.el39_encI hH45 (n := 1) rfl) (by omega) (by omega)) (fun u48 w46 lo49 hi50 hH47 hv51 => ?_)
        have hH52 := Heap.toOw hH47 (n := 0) rfl
        refine ops_y hH52 rfl rfl (yv_move rfl) ?_
        refine op_append (n := 0) T.el39_encI rfl rfl rfl hH52 rfl (Heap.rdw T.el39_encI hH52 (n := 1) rfl) (by first | omega | (simp only [List.length_append, List.length_cons, List.length_nil]; omega)) (fun u53 lo55 hi56 w54 hH57 => ?_)
        refine ops_y hH57 rfl rfl (yv_assign rfl) ?_
        refine ops_nil ?_
        refine thn_n ?_
        refine seq ?_
        refine region_draw (fun w' => Heap [ow lo55 hi56 3 1 encI u53 (((S.shortsTo js k).filter fun y => !decide (y = (bestTo (S.longer1 js) (S.shortsTo js k) ((S.shortsTo js k).length - 1)))) ++ (S.longsTo js k)), ow lo_4 hi_4 3 1 encI v_4 (S.longsTo js k), ow lo_3 hi_3 3 1 encI v_3 (S.shortsTo js k), bx b1 22 [v], base w] w') T.mixed (fun w58 hr59 => ?_)
        have hH60 := hH57.redrawn hr59
        refine any_takes [0, 1, 3, 6, 8, 10] (by kernel_rfl) (hH60.sub (List.Sublist.cons_cons _ (List.Sublist.cons_cons _ (List.Sublist.cons_cons _ (List.Sublist.cons _ (List.Sublist.refl _)))))) _ _ _ (by kernel_rfl) ?_
        refine qs_y rfl rfl (yv_load T.one22 rfl (fun _ hw => Heap.cellw hw (n := 3) rfl rfl)) ?_
        refine qs_y rfl rfl (yv_move rfl) ?_
        refine qs_y rfl rfl (yv_move rfl) ?_
        refine qs_y rfl rfl (yv_move rfl) ?_
        refine qs_y rfl rfl (yv_move rfl) ?_
        refine qs_y rfl rfl (yv_move rfl) ?_
        refine qs_nil ?_
        refine any_all [2, 4, 7] (by kernel_rfl) rfl ?_
        refine ⟨⟨_, rfl, ?_⟩, ⟨_, rfl, ?_⟩, ⟨_, rfl, ?_⟩, trivial⟩
        · skip
          refine op_fn rfl rfl rfl hH60 (c91 (Heap.rdw T.el39_encI hH60 (n := 0) rfl) (by rw [List.length_append]; omega)) (fun u63 w61 lo64 hi65 hH62 hv66 => ?_)
          have hH67 := Heap.toOw hH62 (n := 0) rfl
          refine ops_nil ?_
          refine ⟨(hH67.sub (List.Sublist.cons _ (List.Sublist.cons_cons _ (List.Sublist.cons_cons _ (List.Sublist.cons_cons _ (List.Sublist.cons _ (List.Sublist.refl _))))))), ?_⟩
          refine any_all [4, 7] (by kernel_rfl) rfl ?_
          refine ⟨⟨_, rfl, ?_⟩, ⟨_, rfl, ?_⟩, trivial⟩
          · skip
            refine op_lit (us := [(0, (.int .i64 (bestTo (S.longer1 js) (S.shortsTo js k) ((S.shortsTo js k).length - 1))))]) T.el39_encI [(bestTo (S.longer1 js) (S.shortsTo js k) ((S.shortsTo js k).length - 1))] rfl (by decide) rfl (fun a ha => by simp [ha.ev (show ev _ (.tmp 72) = some _ from rfl)]) (fun w => by kernel_rfl) hH67 (fun u68 lo70 hi71 w69 hH72 => ?_)
            refine ops_nil ?_
            refine ⟨(hH72.sub (List.Sublist.cons _ (List.Sublist.cons _ (List.Sublist.cons_cons _ (List.Sublist.cons_cons _ (List.Sublist.cons_cons _ (List.Sublist.cons _ (List.Sublist.refl _)))))))), ?_⟩
            refine any_all [5, 7] (by kernel_rfl) rfl ?_
            refine ⟨⟨_, rfl, ?_⟩, ⟨_, rfl, ?_⟩, trivial⟩
            · skip
              refine op_append (n := 1) T.el39_encI rfl rfl rfl hH72 rfl (Heap.rdw T.el39_encI hH72 (n := 0) rfl) (by first | omega | (simp only [List.length_append, List.length_cons, List.length_nil]; omega)) (fun u73 lo75 hi76 w74 hH77 => ?_)
              refine ops_nil ?_
              refine ⟨(hH77.sub (List.Sublist.cons _ (List.Sublist.cons _ (List.Sublist.cons_cons _ (List.Sublist.cons_cons _ (List.Sublist.cons_cons _ (List.Sublist.cons _ (List.Sublist.refl _)))))))), ?_⟩
              refine any_all [7] (by kernel_rfl) rfl ?_
              refine ⟨⟨_, rfl, ?_⟩, trivial⟩
              · skip
                refine op_lit (us := [(0, (.int .i64 (bestTo (S.longer1 js) (S.shortsTo js k) ((S.shortsTo js k).length - 1))))]) T.el39_encI [(bestTo (S.longer1 js) (S.shortsTo js k) ((S.shortsTo js k).length - 1))] rfl (by decide) rfl (fun a ha => by simp [ha.ev (show ev _ (.tmp 75) = some _ from rfl)]) (fun w => by kernel_rfl) hH77 (fun u78 lo80 hi81 w79 hH82 => ?_)
                refine ops_nil ?_
                refine ⟨(hH82.sub (List.Sublist.cons _ (List.Sublist.cons _ (List.Sublist.cons _ (List.Sublist.cons_cons _ (List.Sublist.cons_cons _ (List.Sublist.cons_cons _ (List.Sublist.cons _ (List.Sublist.refl _))))))))), ?_⟩
                refine any_all [9] (by kernel_rfl) rfl ?_
                refine ⟨⟨_, rfl, ?_⟩, trivial⟩
                · skip
                  refine op_append (n := 0) T.el39_encI rfl rfl rfl hH82 rfl (Heap.rdw T.el39_encI hH82 (n := 3) rfl) (by first | omega | (simp only [List.length_append, List.length_cons, List.length_nil]; omega)) (fun u83 lo85 hi86 w84 hH87 => ?_)
                  refine ops_nil ?_
                  refine ⟨(hH87.sub (List.Sublist.cons _ (List.Sublist.cons _ (List.Sublist.cons _ (List.Sublist.cons_cons _ (List.Sublist.cons_cons _ (List.Sublist.cons_cons _ (List.Sublist.cons _ (List.Sublist.refl _))))))))), ?_⟩
                  refine any_all [11] (by kernel_rfl) rfl ?_
                  refine ⟨⟨_, rfl, ?_⟩, trivial⟩
                  · skip
                    refine op_fn rfl rfl rfl hH87 (c90 (h0.now hH87 (n := 8) rfl) (Heap.rdw T.el39_encI hH87 (n := 2) rfl) (Heap.rdw T.el39_encI hH87 (n := 0) rfl) (by omega) (by omega)) (fun u90 w88 lo91 hi92 hH89 hv93 => ?_)
                    obtain ⟨f95, hu, -⟩ := hv93
                    subst hu
                    have hH94 := Heap.agg3 hH89 (n := 0) rfl
                    refine ops_nil ?_
                    refine ⟨(hH94.sub (List.Sublist.cons _ (List.Sublist.cons _ (List.Sublist.cons _ (List.Sublist.cons _ (List.Sublist.cons_cons _ (List.Sublist.cons_cons _ (List.Sublist.cons_cons _ (List.Sublist.cons _ (List.Sublist.refl _)))))))))), ?_⟩
                    refine any_all [12] (by kernel_rfl) rfl ?_
                    refine ⟨⟨_, rfl, ?_⟩, trivial⟩
                    · skip
                      refine op_store (n := 7) (j := 0) (us := [u73, u83, f95]) rfl rfl hH94 rfl T.sz41 rfl rfl rfl (all_one (SliceIs.one1 (Heap.rdw T.el39_encI hH94 (n := 3) rfl).is) (all_one (SliceIs.one1 (Heap.rdw T.el39_encI hH94 (n := 1) rfl).is) (all_one (SliceIs.one1 (Heap.rdw T.el39_encI hH94 (n := 0) rfl).is) rfl))) (fun w96 hH97 => ?_)
                      refine ops_nil ?_
                      refine ⟨(hH97.sub (List.Sublist.cons _ (List.Sublist.cons _ (List.Sublist.cons _ (List.Sublist.cons _ (List.Sublist.cons_cons _ (List.Sublist.cons_cons _ (List.Sublist.cons_cons _ (List.Sublist.cons _ (List.Sublist.refl _)))))))))), ?_⟩
                      refine any_done (by kernel_rfl) ?_
                      refine thn_n ?_
                      refine ret ?_
                      refine thn_r ?_
                      have hH98 := (hH97.sub (List.Sublist.cons_cons _ (List.Sublist.cons_cons _ (List.Sublist.cons _ (List.Sublist.cons_cons _ (List.Sublist.cons _ (List.Sublist.cons _ (List.Sublist.cons _ (List.Sublist.cons_cons _ (List.Sublist.cons _ (List.Sublist.refl _)))))))))))
                      refine fin (hH98.front (n := 4) rfl) (fun w' hf => (res1 rfl (rvA (cs := [u73, u83, f95]) rfl T.agg41 rfl (bx_cells (Heap.bxw hf (n := 4) rfl) (k := 0) rfl)))) (fun w' hf => ?_)
                      rw [S.planOrd_t hk2 hus]; exact ⟨_, _, _, rfl, Heap.rdw T.el39_encI hf (n := 2) rfl, Heap.rdw T.el39_encI hf (n := 1) rfl, Heap.rdw T.el39_encI hf (n := 0) rfl⟩
            · skip
              refine op_lit (us := [(0, (.int .i64 (bestTo (S.longer1 js) (S.shortsTo js k) ((S.shortsTo js k).length - 1))))]) T.el39_encI [(bestTo (S.longer1 js) (S.shortsTo js k) ((S.shortsTo js k).length - 1))] rfl (by decide) rfl (fun a ha => by simp [ha.ev (show ev _ (.tmp 75) = some _ from rfl)]) (fun w => by kernel_rfl) hH72 (fun u99 lo101 hi102 w100 hH103 => ?_)
              refine ops_nil ?_
              refine ⟨(hH103.sub (List.Sublist.cons _ (List.Sublist.cons _ (List.Sublist.cons _ (List.Sublist.cons_cons _ (List.Sublist.cons_cons _ (List.Sublist.cons_cons _ (List.Sublist.cons _ (List.Sublist.refl _))))))))), ?_⟩
              refine any_all [5] (by kernel_rfl) rfl ?_
              refine ⟨⟨_, rfl, ?_⟩, trivial⟩
              · skip
                refine op_append (n := 2) T.el39_encI rfl rfl rfl hH103 rfl (Heap.rdw T.el39_encI hH103 (n := 1) rfl) (by first | omega | (simp only [List.length_append, List.length_cons, List.length_nil]; omega)) (fun u104 lo106 hi107 w105 hH108 => ?_)
                refine ops_nil ?_
                refine ⟨(hH108.sub (List.Sublist.cons _ (List.Sublist.cons _ (List.Sublist.cons _ (List.Sublist.cons_cons _ (List.Sublist.cons_cons _ (List.Sublist.cons_cons _ (List.Sublist.cons _ (List.Sublist.refl _))))))))), ?_⟩
                refine any_all [9] (by kernel_rfl) rfl ?_
                refine ⟨⟨_, rfl, ?_⟩, trivial⟩
                · skip
                  refine op_append (n := 0) T.el39_encI rfl rfl rfl hH108 rfl (Heap.rdw T.el39_encI hH108 (n := 3) rfl) (by first | omega | (simp only [List.length_append, List.length_cons, List.length_nil]; omega)) (fun u109 lo111 hi112 w110 hH113 => ?_)
                  refine ops_nil ?_
                  refine ⟨(hH113.sub (List.Sublist.cons _ (List.Sublist.cons _ (List.Sublist.cons _ (List.Sublist.cons_cons _ (List.Sublist.cons_cons _ (List.Sublist.cons_cons _ (List.Sublist.cons _ (List.Sublist.refl _))))))))), ?_⟩
                  refine any_all [11] (by kernel_rfl) rfl ?_
                  refine ⟨⟨_, rfl, ?_⟩, trivial⟩
                  · skip
                    refine op_fn rfl rfl rfl hH113 (c90 (h0.now hH113 (n := 8) rfl) (Heap.rdw T.el39_encI hH113 (n := 2) rfl) (Heap.rdw T.el39_encI hH113 (n := 0) rfl) (by omega) (by omega)) (fun u116 w114 lo117 hi118 hH115 hv119 => ?_)
                    obtain ⟨f121, hu, -⟩ := hv119
                    subst hu
                    have hH120 := Heap.agg3 hH115 (n := 0) rfl
                    refine ops_nil ?_
                    refine ⟨(hH120.sub (List.Sublist.cons _ (List.Sublist.cons _ (List.Sublist.cons _ (List.Sublist.cons _ (List.Sublist.cons_cons _ (List.Sublist.cons_cons _ (List.Sublist.cons_cons _ (List.Sublist.cons _ (List.Sublist.refl _)))))))))), ?_⟩
                    refine any_all [12] (by kernel_rfl) rfl ?_
                    refine ⟨⟨_, rfl, ?_⟩, trivial⟩
                    · skip
                      refine op_store (n := 7) (j := 0) (us := [u104, u109, f121]) rfl rfl hH120 rfl T.sz41 rfl rfl rfl (all_one (SliceIs.one1 (Heap.rdw T.el39_encI hH120 (n := 3) rfl).is) (all_one (SliceIs.one1 (Heap.rdw T.el39_encI hH120 (n := 1) rfl).is) (all_one (SliceIs.one1 (Heap.rdw T.el39_encI hH120 (n := 0) rfl).is) rfl))) (fun w122 hH123 => ?_)
                      refine ops_nil ?_
                      refine ⟨(hH123.sub (List.Sublist.cons _ (List.Sublist.cons _ (List.Sublist.cons _ (List.Sublist.cons _ (List.Sublist.cons_cons _ (List.Sublist.cons_cons _ (List.Sublist.cons_cons _ (List.Sublist.cons _ (List.Sublist.refl _)))))))))), ?_⟩
                      refine any_done (by kernel_rfl) ?_
                      refine thn_n ?_
                      refine ret ?_
                      refine thn_r ?_
                      have hH124 := (hH123.sub (List.Sublist.cons_cons _ (List.Sublist.cons_cons _ (List.Sublist.cons _ (List.Sublist.cons_cons _ (List.Sublist.cons _ (List.Sublist.cons _ (List.Sublist.cons _ (List.Sublist.cons_cons _ (List.Sublist.cons _ (List.Sublist.refl _)))))))))))
                      refine fin (hH124.front (n := 4) rfl) (fun w' hf => (res1 rfl (rvA (cs := [u104, u109, f121]) rfl T.agg41 rfl (bx_cells (Heap.bxw hf (n := 4) rfl) (k := 0) rfl)))) (fun w' hf => ?_)
                      rw [S.planOrd_t hk2 hus]; exact ⟨_, _, _, rfl, Heap.rdw T.el39_encI hf (n := 2) rfl, Heap.rdw T.el39_encI hf (n := 1) rfl, Heap.rdw T.el39_encI hf (n := 0) rfl⟩
          · skip
            refine op_lit (us := [(0, (.int .i64 (bestTo (S.longer1 js) (S.shortsTo js k) ((S.shortsTo js k).length - 1))))]) T.el39_encI [(bestTo (S.longer1 js) (S.shortsTo js k) ((S.shortsTo js k).length - 1))] rfl (by decide) rfl (fun a ha => by simp [ha.ev (show ev _ (.tmp 75) = some _ from rfl)]) (fun w => by kernel_rfl) hH67 (fun u125 lo127 hi128 w126 hH129 => ?_)
            refine ops_nil ?_
            refine ⟨(hH129.sub (List.Sublist.cons _ (List.Sublist.cons _ (List.Sublist.cons_cons _ (List.Sublist.cons_cons _ (List.Sublist.cons_cons _ (List.Sublist.cons _ (List.Sublist.refl _)))))))), ?_⟩
            refine any_all [4] (by kernel_rfl) rfl ?_
            refine ⟨⟨_, rfl, ?_⟩, trivial⟩
            · skip
              refine op_lit (us := [(0, (.int .i64 (bestTo (S.longer1 js) (S.shortsTo js k) ((S.shortsTo js k).length - 1))))]) T.el39_encI [(bestTo (S.longer1 js) (S.shortsTo js k) ((S.shortsTo js k).length - 1))] rfl (by decide) rfl (fun a ha => by simp [ha.ev (show ev _ (.tmp 72) = some _ from rfl)]) (fun w => by kernel_rfl) hH129 (fun u130 lo132 hi133 w131 hH134 => ?_)
              refine ops_nil ?_
              refine ⟨(hH134.sub (List.Sublist.cons _ (List.Sublist.cons _ (List.Sublist.cons _ (List.Sublist.cons_cons _ (List.Sublist.cons_cons _ (List.Sublist.cons_cons _ (List.Sublist.cons _ (List.Sublist.refl _))))))))), ?_⟩
              refine any_all [5] (by kernel_rfl) rfl ?_
              refine ⟨⟨_, rfl, ?_⟩, trivial⟩
              · skip
                refine op_append (n := 2) T.el39_encI rfl rfl rfl hH134 rfl (Heap.rdw T.el39_encI hH134 (n := 0) rfl) (by first | omega | (simp only [List.length_append, List.length_cons, List.length_nil]; omega)) (fun u135 lo137 hi138 w136 hH139 => ?_)
                refine ops_nil ?_
                refine ⟨(hH139.sub (List.Sublist.cons _ (List.Sublist.cons _ (List.Sublist.cons _ (List.Sublist.cons_cons _ (List.Sublist.cons_cons _ (List.Sublist.cons_cons _ (List.Sublist.cons _ (List.Sublist.refl _))))))))), ?_⟩
                refine any_all [9] (by kernel_rfl) rfl ?_
                refine ⟨⟨_, rfl, ?_⟩, trivial⟩
                · skip
                  refine op_append (n := 1) T.el39_encI rfl rfl rfl hH139 rfl (Heap.rdw T.el39_encI hH139 (n := 3) rfl) (by first | omega | (simp only [List.length_append, List.length_cons, List.length_nil]; omega)) (fun u140 lo142 hi143 w141 hH144 => ?_)
                  refine ops_nil ?_
                  refine ⟨(hH144.sub (List.Sublist.cons _ (List.Sublist.cons _ (List.Sublist.cons _ (List.Sublist.cons_cons _ (List.Sublist.cons_cons _ (List.Sublist.cons_cons _ (List.Sublist.cons _ (List.Sublist.refl _))))))))), ?_⟩
                  refine any_all [11] (by kernel_rfl) rfl ?_
                  refine ⟨⟨_, rfl, ?_⟩, trivial⟩
                  · skip
                    refine op_fn rfl rfl rfl hH144 (c90 (h0.now hH144 (n := 8) rfl) (Heap.rdw T.el39_encI hH144 (n := 2) rfl) (Heap.rdw T.el39_encI hH144 (n := 1) rfl) (by omega) (by omega)) (fun u147 w145 lo148 hi149 hH146 hv150 => ?_)
                    obtain ⟨f152, hu, -⟩ := hv150
                    subst hu
                    have hH151 := Heap.agg3 hH146 (n := 0) rfl
                    refine ops_nil ?_
                    refine ⟨(hH151.sub (List.Sublist.cons _ (List.Sublist.cons _ (List.Sublist.cons _ (List.Sublist.cons _ (List.Sublist.cons_cons _ (List.Sublist.cons_cons _ (List.Sublist.cons_cons _ (List.Sublist.cons _ (List.Sublist.refl _)))))))))), ?_⟩
                    refine any_all [12] (by kernel_rfl) rfl ?_
                    refine ⟨⟨_, rfl, ?_⟩, trivial⟩
                    · skip
                      refine op_store (n := 7) (j := 0) (us := [u135, u140, f152]) rfl rfl hH151 rfl T.sz41 rfl rfl rfl (all_one (SliceIs.one1 (Heap.rdw T.el39_encI hH151 (n := 3) rfl).is) (all_one (SliceIs.one1 (Heap.rdw T.el39_encI hH151 (n := 2) rfl).is) (all_one (SliceIs.one1 (Heap.rdw T.el39_encI hH151 (n := 0) rfl).is) rfl))) (fun w153 hH154 => ?_)
                      refine ops_nil ?_
                      refine ⟨(hH154.sub (List.Sublist.cons _ (List.Sublist.cons _ (List.Sublist.cons _ (List.Sublist.cons _ (List.Sublist.cons_cons _ (List.Sublist.cons_cons _ (List.Sublist.cons_cons _ (List.Sublist.cons _ (List.Sublist.refl _)))))))))), ?_⟩
                      refine any_done (by kernel_rfl) ?_
                      refine thn_n ?_
                      refine ret ?_
                      refine thn_r ?_
                      have hH155 := (hH154.sub (List.Sublist.cons_cons _ (List.Sublist.cons _ (List.Sublist.cons_cons _ (List.Sublist.cons_cons _ (List.Sublist.cons _ (List.Sublist.cons _ (List.Sublist.cons _ (List.Sublist.cons_cons _ (List.Sublist.cons _ (List.Sublist.refl _)))))))))))
                      refine fin (hH155.front (n := 4) rfl) (fun w' hf => (res1 rfl (rvA (cs := [u135, u140, f152]) rfl T.agg41 rfl (bx_cells (Heap.bxw hf (n := 4) rfl) (k := 0) rfl)))) (fun w' hf => ?_)
                      rw [S.planOrd_t hk2 hus]; exact ⟨_, _, _, rfl, Heap.rdw T.el39_encI hf (n := 2) rfl, Heap.rdw T.el39_encI hf (n := 1) rfl, Heap.rdw T.el39_encI hf (n := 0) rfl⟩
        · skip
          refine op_lit (us := [(0, (.int .i64 (bestTo (S.longer1 js) (S.shortsTo js k) ((S.shortsTo js k).length - 1))))]) T.el39_encI [(bestTo (S.longer1 js) (S.shortsTo js k) ((S.shortsTo js k).length - 1))] rfl (by decide) rfl (fun a ha => by simp [ha.ev (show ev _ (.tmp 72) = some _ from rfl)]) (fun w => by kernel_rfl) hH60 (fun u156 lo158 hi159 w157 hH160 => ?_)
          refine ops_nil ?_
          refine ⟨(hH160.sub (List.Sublist.cons _ (List.Sublist.cons_cons _ (List.Sublist.cons_cons _ (List.Sublist.cons_cons _ (List.Sublist.cons _ (List.Sublist.refl _))))))), ?_⟩
          refine any_all [2, 7] (by kernel_rfl) rfl ?_
          refine ⟨⟨_, rfl, ?_⟩, ⟨_, rfl, ?_⟩, trivial⟩
          · skip
            refine op_fn rfl rfl rfl hH160 (c91 (Heap.rdw T.el39_encI hH160 (n := 1) rfl) (by rw [List.length_append]; omega)) (fun u163 w161 lo164 hi165 hH162 hv166 => ?_)
            have hH167 := Heap.toOw hH162 (n := 0) rfl
            refine ops_nil ?_
            refine ⟨(hH167.sub (List.Sublist.cons _ (List.Sublist.cons _ (List.Sublist.cons_cons _ (List.Sublist.cons_cons _ (List.Sublist.cons_cons _ (List.Sublist.cons _ (List.Sublist.refl _)))))))), ?_⟩
            refine any_all [5, 7] (by kernel_rfl) rfl ?_
            refine ⟨⟨_, rfl, ?_⟩, ⟨_, rfl, ?_⟩, trivial⟩
            · skip
              refine op_append (n := 0) T.el39_encI rfl rfl rfl hH167 rfl (Heap.rdw T.el39_encI hH167 (n := 1) rfl) (by first | omega | (simp only [List.length_append, List.length_cons, List.length_nil]; omega)) (fun u168 lo170 hi171 w169 hH172 => ?_)
              refine ops_nil ?_
              refine ⟨(hH172.sub (List.Sublist.cons _ (List.Sublist.cons _ (List.Sublist.cons_cons _ (List.Sublist.cons_cons _ (List.Sublist.cons_cons _ (List.Sublist.cons _ (List.Sublist.refl _)))))))), ?_⟩
              refine any_all [7] (by kernel_rfl) rfl ?_
              refine ⟨⟨_, rfl, ?_⟩, trivial⟩
              · skip
                refine op_lit (us := [(0, (.int .i64 (bestTo (S.longer1 js) (S.shortsTo js k) ((S.shortsTo js k).length - 1))))]) T.el39_encI [(bestTo (S.longer1 js) (S.shortsTo js k) ((S.shortsTo js k).length - 1))] rfl (by decide) rfl (fun a ha => by simp [ha.ev (show ev _ (.tmp 75) = some _ from rfl)]) (fun w => by kernel_rfl) hH172 (fun u173 lo175 hi176 w174 hH177 => ?_)
                refine ops_nil ?_
                refine ⟨(hH177.sub (List.Sublist.cons _ (List.Sublist.cons _ (List.Sublist.cons _ (List.Sublist.cons_cons _ (List.Sublist.cons_cons _ (List.Sublist.cons_cons _ (List.Sublist.cons _ (List.Sublist.refl _))))))))), ?_⟩
                refine any_all [9] (by kernel_rfl) rfl ?_
                refine ⟨⟨_, rfl, ?_⟩, trivial⟩
                · skip
                  refine op_append (n := 0) T.el39_encI rfl rfl rfl hH177 rfl (Heap.rdw T.el39_encI hH177 (n := 3) rfl) (by first | omega | (simp only [List.length_append, List.length_cons, List.length_nil]; omega)) (fun u178 lo180 hi181 w179 hH182 => ?_)
                  refine ops_nil ?_
                  refine ⟨(hH182.sub (List.Sublist.cons _ (List.Sublist.cons _ (List.Sublist.cons _ (List.Sublist.cons_cons _ (List.Sublist.cons_cons _ (List.Sublist.cons_cons _ (List.Sublist.cons _ (List.Sublist.refl _))))))))), ?_⟩
                  refine any_all [11] (by kernel_rfl) rfl ?_
                  refine ⟨⟨_, rfl, ?_⟩, trivial⟩
                  · skip
                    refine op_fn rfl rfl rfl hH182 (c90 (h0.now hH182 (n := 8) rfl) (Heap.rdw T.el39_encI hH182 (n := 1) rfl) (Heap.rdw T.el39_encI hH182 (n := 0) rfl) (by omega) (by omega)) (fun u185 w183 lo186 hi187 hH184 hv188 => ?_)
                    obtain ⟨f190, hu, -⟩ := hv188
                    subst hu
                    have hH189 := Heap.agg3 hH184 (n := 0) rfl
                    refine ops_nil ?_
                    refine ⟨(hH189.sub (List.Sublist.cons _ (List.Sublist.cons _ (List.Sublist.cons _ (List.Sublist.cons _ (List.Sublist.cons_cons _ (List.Sublist.cons_cons _ (List.Sublist.cons_cons _ (List.Sublist.cons _ (List.Sublist.refl _)))))))))), ?_⟩
                    refine any_all [12] (by kernel_rfl) rfl ?_
                    refine ⟨⟨_, rfl, ?_⟩, trivial⟩
                    · skip
                      refine op_store (n := 7) (j := 0) (us := [u168, u178, f190]) rfl rfl hH189 rfl T.sz41 rfl rfl rfl (all_one (SliceIs.one1 (Heap.rdw T.el39_encI hH189 (n := 2) rfl).is) (all_one (SliceIs.one1 (Heap.rdw T.el39_encI hH189 (n := 1) rfl).is) (all_one (SliceIs.one1 (Heap.rdw T.el39_encI hH189 (n := 0) rfl).is) rfl))) (fun w191 hH192 => ?_)
                      refine ops_nil ?_
                      refine ⟨(hH192.sub (List.Sublist.cons _ (List.Sublist.cons _ (List.Sublist.cons _ (List.Sublist.cons _ (List.Sublist.cons_cons _ (List.Sublist.cons_cons _ (List.Sublist.cons_cons _ (List.Sublist.cons _ (List.Sublist.refl _)))))))))), ?_⟩
                      refine any_done (by kernel_rfl) ?_
                      refine thn_n ?_
                      refine ret ?_
                      refine thn_r ?_
                      have hH193 := (hH192.sub (List.Sublist.cons_cons _ (List.Sublist.cons_cons _ (List.Sublist.cons_cons _ (List.Sublist.cons _ (List.Sublist.cons _ (List.Sublist.cons _ (List.Sublist.cons _ (List.Sublist.cons_cons _ (List.Sublist.cons _ (List.Sublist.refl _)))))))))))
                      refine fin (hH193.front (n := 4) rfl) (fun w' hf => (res1 rfl (rvA (cs := [u168, u178, f190]) rfl T.agg41 rfl (bx_cells (Heap.bxw hf (n := 4) rfl) (k := 0) rfl)))) (fun w' hf => ?_)
                      rw [S.planOrd_t hk2 hus]; exact ⟨_, _, _, rfl, Heap.rdw T.el39_encI hf (n := 2) rfl, Heap.rdw T.el39_encI hf (n := 1) rfl, Heap.rdw T.el39_encI hf (n := 0) rfl⟩
            · skip
              refine op_lit (us := [(0, (.int .i64 (bestTo (S.longer1 js) (S.shortsTo js k) ((S.shortsTo js k).length - 1))))]) T.el39_encI [(bestTo (S.longer1 js) (S.shortsTo js k) ((S.shortsTo js k).length - 1))] rfl (by decide) rfl (fun a ha => by simp [ha.ev (show ev _ (.tmp 75) = some _ from rfl)]) (fun w => by kernel_rfl) hH167 (fun u194 lo196 hi197 w195 hH198 => ?_)
              refine ops_nil ?_
              refine ⟨(hH198.sub (List.Sublist.cons _ (List.Sublist.cons _ (List.Sublist.cons _ (List.Sublist.cons_cons _ (List.Sublist.cons_cons _ (List.Sublist.cons_cons _ (List.Sublist.cons _ (List.Sublist.refl _))))))))), ?_⟩
              refine any_all [5] (by kernel_rfl) rfl ?_
              refine ⟨⟨_, rfl, ?_⟩, trivial⟩
              · skip
                refine op_append (n := 1) T.el39_encI rfl rfl rfl hH198 rfl (Heap.rdw T.el39_encI hH198 (n := 2) rfl) (by first | omega | (simp only [List.length_append, List.length_cons, List.length_nil]; omega)) (fun u199 lo201 hi202 w200 hH203 => ?_)
                refine ops_nil ?_
                refine ⟨(hH203.sub (List.Sublist.cons _ (List.Sublist.cons _ (List.Sublist.cons _ (List.Sublist.cons_cons _ (List.Sublist.cons_cons _ (List.Sublist.cons_cons _ (List.Sublist.cons _ (List.Sublist.refl _))))))))), ?_⟩
                refine any_all [9] (by kernel_rfl) rfl ?_
                refine ⟨⟨_, rfl, ?_⟩, trivial⟩
                · skip
                  refine op_append (n := 0) T.el39_encI rfl rfl rfl hH203 rfl (Heap.rdw T.el39_encI hH203 (n := 3) rfl) (by first | omega | (simp only [List.length_append, List.length_cons, List.length_nil]; omega)) (fun u204 lo206 hi207 w205 hH208 => ?_)
                  refine ops_nil ?_
                  refine ⟨(hH208.sub (List.Sublist.cons _ (List.Sublist.cons _ (List.Sublist.cons _ (List.Sublist.cons_cons _ (List.Sublist.cons_cons _ (List.Sublist.cons_cons _ (List.Sublist.cons _ (List.Sublist.refl _))))))))), ?_⟩
                  refine any_all [11] (by kernel_rfl) rfl ?_
                  refine ⟨⟨_, rfl, ?_⟩, trivial⟩
                  · skip
                    refine op_fn rfl rfl rfl hH208 (c90 (h0.now hH208 (n := 8) rfl) (Heap.rdw T.el39_encI hH208 (n := 1) rfl) (Heap.rdw T.el39_encI hH208 (n := 0) rfl) (by omega) (by omega)) (fun u211 w209 lo212 hi213 hH210 hv214 => ?_)
                    obtain ⟨f216, hu, -⟩ := hv214
                    subst hu
                    have hH215 := Heap.agg3 hH210 (n := 0) rfl
                    refine ops_nil ?_
                    refine ⟨(hH215.sub (List.Sublist.cons _ (List.Sublist.cons _ (List.Sublist.cons _ (List.Sublist.cons _ (List.Sublist.cons_cons _ (List.Sublist.cons_cons _ (List.Sublist.cons_cons _ (List.Sublist.cons _ (List.Sublist.refl _)))))))))), ?_⟩
                    refine any_all [12] (by kernel_rfl) rfl ?_
                    refine ⟨⟨_, rfl, ?_⟩, trivial⟩
                    · skip
                      refine op_store (n := 7) (j := 0) (us := [u199, u204, f216]) rfl rfl hH215 rfl T.sz41 rfl rfl rfl (all_one (SliceIs.one1 (Heap.rdw T.el39_encI hH215 (n := 2) rfl).is) (all_one (SliceIs.one1 (Heap.rdw T.el39_encI hH215 (n := 1) rfl).is) (all_one (SliceIs.one1 (Heap.rdw T.el39_encI hH215 (n := 0) rfl).is) rfl))) (fun w217 hH218 => ?_)
                      refine ops_nil ?_
                      refine ⟨(hH218.sub (List.Sublist.cons _ (List.Sublist.cons _ (List.Sublist.cons _ (List.Sublist.cons _ (List.Sublist.cons_cons _ (List.Sublist.cons_cons _ (List.Sublist.cons_cons _ (List.Sublist.cons _ (List.Sublist.refl _)))))))))), ?_⟩
                      refine any_done (by kernel_rfl) ?_
                      refine thn_n ?_
                      refine ret ?_
                      refine thn_r ?_
                      have hH219 := (hH218.sub (List.Sublist.cons_cons _ (List.Sublist.cons_cons _ (List.Sublist.cons_cons _ (List.Sublist.cons _ (List.Sublist.cons _ (List.Sublist.cons _ (List.Sublist.cons _ (List.Sublist.cons_cons _ (List.Sublist.cons _ (List.Sublist.refl _)))))))))))
                      refine fin (hH219.front (n := 4) rfl) (fun w' hf => (res1 rfl (rvA (cs := [u199, u204, f216]) rfl T.agg41 rfl (bx_cells (Heap.bxw hf (n := 4) rfl) (k := 0) rfl)))) (fun w' hf => ?_)
                      rw [S.planOrd_t hk2 hus]; exact ⟨_, _, _, rfl, Heap.rdw T.el39_encI hf (n := 2) rfl, Heap.rdw T.el39_encI hf (n := 1) rfl, Heap.rdw T.el39_encI hf (n := 0) rfl⟩
          · skip
            refine op_lit (us := [(0, (.int .i64 (bestTo (S.longer1 js) (S.shortsTo js k) ((S.shortsTo js k).length - 1))))]) T.el39_encI [(bestTo (S.longer1 js) (S.shortsTo js k) ((S.shortsTo js k).length - 1))] rfl (by decide) rfl (fun a ha => by simp [ha.ev (show ev _ (.tmp 75) = some _ from rfl)]) (fun w => by kernel_rfl) hH160 (fun u220 lo222 hi223 w221 hH224 => ?_)
            refine ops_nil ?_
            refine ⟨(hH224.sub (List.Sublist.cons _ (List.Sublist.cons _ (List.Sublist.cons_cons _ (List.Sublist.cons_cons _ (List.Sublist.cons_cons _ (List.Sublist.cons _ (List.Sublist.refl _)))))))), ?_⟩
            refine any_all [2] (by kernel_rfl) rfl ?_
            refine ⟨⟨_, rfl, ?_⟩, trivial⟩
            · skip
              refine op_fn rfl rfl rfl hH224 (c91 (Heap.rdw T.el39_encI hH224 (n := 2) rfl) (by rw [List.length_append]; omega)) (fun u227 w225 lo228 hi229 hH226 hv230 => ?_)
              have hH231 := Heap.toOw hH226 (n := 0) rfl
              refine ops_nil ?_
              refine ⟨(hH231.sub (List.Sublist.cons _ (List.Sublist.cons _ (List.Sublist.cons _ (List.Sublist.cons_cons _ (List.Sublist.cons_cons _ (List.Sublist.cons_cons _ (List.Sublist.cons _ (List.Sublist.refl _))))))))), ?_⟩
              refine any_all [5] (by kernel_rfl) rfl ?_
              refine ⟨⟨_, rfl, ?_⟩, trivial⟩
              · skip
                refine op_append (n := 0) T.el39_encI rfl rfl rfl hH231 rfl (Heap.rdw T.el39_encI hH231 (n := 2) rfl) (by first | omega | (simp only [List.length_append, List.length_cons, List.length_nil]; omega)) (fun u232 lo234 hi235 w233 hH236 => ?_)
                refine ops_nil ?_
                refine ⟨(hH236.sub (List.Sublist.cons _ (List.Sublist.cons _ (List.Sublist.cons _ (List.Sublist.cons_cons _ (List.Sublist.cons_cons _ (List.Sublist.cons_cons _ (List.Sublist.cons _ (List.Sublist.refl _))))))))), ?_⟩
                refine any_all [9] (by kernel_rfl) rfl ?_
                refine ⟨⟨_, rfl, ?_⟩, trivial⟩
                · skip
                  refine op_append (n := 1) T.el39_encI rfl rfl rfl hH236 rfl (Heap.rdw T.el39_encI hH236 (n := 3) rfl) (by first | omega | (simp only [List.length_append, List.length_cons, List.length_nil]; omega)) (fun u237 lo239 hi240 w238 hH241 => ?_)
                  refine ops_nil ?_
                  refine ⟨(hH241.sub (List.Sublist.cons _ (List.Sublist.cons _ (List.Sublist.cons _ (List.Sublist.cons_cons _ (List.Sublist.cons_cons _ (List.Sublist.cons_cons _ (List.Sublist.cons _ (List.Sublist.refl _))))))))), ?_⟩
                  refine any_all [11] (by kernel_rfl) rfl ?_
                  refine ⟨⟨_, rfl, ?_⟩, trivial⟩
                  · skip
                    refine op_fn rfl rfl rfl hH241 (c90 (h0.now hH241 (n := 8) rfl) (Heap.rdw T.el39_encI hH241 (n := 0) rfl) (Heap.rdw T.el39_encI hH241 (n := 1) rfl) (by omega) (by omega)) (fun u244 w242 lo245 hi246 hH243 hv247 => ?_)
                    obtain ⟨f249, hu, -⟩ := hv247
                    subst hu
                    have hH248 := Heap.agg3 hH243 (n := 0) rfl
                    refine ops_nil ?_
                    refine ⟨(hH248.sub (List.Sublist.cons _ (List.Sublist.cons _ (List.Sublist.cons _ (List.Sublist.cons _ (List.Sublist.cons_cons _ (List.Sublist.cons_cons _ (List.Sublist.cons_cons _ (List.Sublist.cons _ (List.Sublist.refl _)))))))))), ?_⟩
                    refine any_all [12] (by kernel_rfl) rfl ?_
                    refine ⟨⟨_, rfl, ?_⟩, trivial⟩
                    · skip
                      refine op_store (n := 7) (j := 0) (us := [u232, u237, f249]) rfl rfl hH248 rfl T.sz41 rfl rfl rfl (all_one (SliceIs.one1 (Heap.rdw T.el39_encI hH248 (n := 1) rfl).is) (all_one (SliceIs.one1 (Heap.rdw T.el39_encI hH248 (n := 2) rfl).is) (all_one (SliceIs.one1 (Heap.rdw T.el39_encI hH248 (n := 0) rfl).is) rfl))) (fun w250 hH251 => ?_)
                      refine ops_nil ?_
                      refine ⟨(hH251.sub (List.Sublist.cons _ (List.Sublist.cons _ (List.Sublist.cons _ (List.Sublist.cons _ (List.Sublist.cons_cons _ (List.Sublist.cons_cons _ (List.Sublist.cons_cons _ (List.Sublist.cons _ (List.Sublist.refl _)))))))))), ?_⟩
                      refine any_done (by kernel_rfl) ?_
                      refine thn_n ?_
                      refine ret ?_
                      refine thn_r ?_
                      have hH252 := (hH251.sub (List.Sublist.cons_cons _ (List.Sublist.cons_cons _ (List.Sublist.cons_cons _ (List.Sublist.cons _ (List.Sublist.cons _ (List.Sublist.cons _ (List.Sublist.cons _ (List.Sublist.cons_cons _ (List.Sublist.cons _ (List.Sublist.refl _)))))))))))
                      refine fin (hH252.front (n := 4) rfl) (fun w' hf => (res1 rfl (rvA (cs := [u232, u237, f249]) rfl T.agg41 rfl (bx_cells (Heap.bxw hf (n := 4) rfl) (k := 0) rfl)))) (fun w' hf => ?_)
                      rw [S.planOrd_t hk2 hus]; exact ⟨_, _, _, rfl, Heap.rdw T.el39_encI hf (n := 1) rfl, Heap.rdw T.el39_encI hf (n := 2) rfl, Heap.rdw T.el39_encI hf (n := 0) rfl⟩
        · skip
          refine op_lit (us := [(0, (.int .i64 (bestTo (S.longer1 js) (S.shortsTo js k) ((S.shortsTo js k).length - 1))))]) T.el39_encI [(bestTo (S.longer1 js) (S.shortsTo js k) ((S.shortsTo js k).length - 1))] rfl (by decide) rfl (fun a ha => by simp [ha.ev (show ev _ (.tmp 75) = some _ from rfl)]) (fun w => by kernel_rfl) hH60 (fun u253 lo255 hi256 w254 hH257 => ?_)
          refine ops_nil ?_
          refine ⟨(hH257.sub (List.Sublist.cons _ (List.Sublist.cons_cons _ (List.Sublist.cons_cons _ (List.Sublist.cons_cons _ (List.Sublist.cons _ (List.Sublist.refl _))))))), ?_⟩
          refine any_all [2, 4] (by kernel_rfl) rfl ?_
          refine ⟨⟨_, rfl, ?_⟩, ⟨_, rfl, ?_⟩, trivial⟩
          · skip
            refine op_fn rfl rfl rfl hH257 (c91 (Heap.rdw T.el39_encI hH257 (n := 1) rfl) (by rw [List.length_append]; omega)) (fun u260 w258 lo261 hi262 hH259 hv263 => ?_)
            have hH264 := Heap.toOw hH259 (n := 0) rfl
            refine ops_nil ?_
            refine ⟨(hH264.sub (List.Sublist.cons _ (List.Sublist.cons _ (List.Sublist.cons_cons _ (List.Sublist.cons_cons _ (List.Sublist.cons_cons _ (List.Sublist.cons _ (List.Sublist.refl _)))))))), ?_⟩
            refine any_all [4] (by kernel_rfl) rfl ?_
            refine ⟨⟨_, rfl, ?_⟩, trivial⟩
            · skip
              refine op_lit (us := [(0, (.int .i64 (bestTo (S.longer1 js) (S.shortsTo js k) ((S.shortsTo js k).length - 1))))]) T.el39_encI [(bestTo (S.longer1 js) (S.shortsTo js k) ((S.shortsTo js k).length - 1))] rfl (by decide) rfl (fun a ha => by simp [ha.ev (show ev _ (.tmp 72) = some _ from rfl)]) (fun w => by kernel_rfl) hH264 (fun u265 lo267 hi268 w266 hH269 => ?_)
              refine ops_nil ?_
              refine ⟨(hH269.sub (List.Sublist.cons _ (List.Sublist.cons _ (List.Sublist.cons _ (List.Sublist.cons_cons _ (List.Sublist.cons_cons _ (List.Sublist.cons_cons _ (List.Sublist.cons _ (List.Sublist.refl _))))))))), ?_⟩
              refine any_all [5] (by kernel_rfl) rfl ?_
              refine ⟨⟨_, rfl, ?_⟩, trivial⟩
              · skip
                refine op_append (n := 1) T.el39_encI rfl rfl rfl hH269 rfl (Heap.rdw T.el39_encI hH269 (n := 0) rfl) (by first | omega | (simp only [List.length_append, List.length_cons, List.length_nil]; omega)) (fun u270 lo272 hi273 w271 hH274 => ?_)
                refine ops_nil ?_
                refine ⟨(hH274.sub (List.Sublist.cons _ (List.Sublist.cons _ (List.Sublist.cons _ (List.Sublist.cons_cons _ (List.Sublist.cons_cons _ (List.Sublist.cons_cons _ (List.Sublist.cons _ (List.Sublist.refl _))))))))), ?_⟩
                refine any_all [9] (by kernel_rfl) rfl ?_
                refine ⟨⟨_, rfl, ?_⟩, trivial⟩
                · skip
                  refine op_append (n := 2) T.el39_encI rfl rfl rfl hH274 rfl (Heap.rdw T.el39_encI hH274 (n := 3) rfl) (by first | omega | (simp only [List.length_append, List.length_cons, List.length_nil]; omega)) (fun u275 lo277 hi278 w276 hH279 => ?_)
                  refine ops_nil ?_
                  refine ⟨(hH279.sub (List.Sublist.cons _ (List.Sublist.cons _ (List.Sublist.cons _ (List.Sublist.cons_cons _ (List.Sublist.cons_cons _ (List.Sublist.cons_cons _ (List.Sublist.cons _ (List.Sublist.refl _))))))))), ?_⟩
                  refine any_all [11] (by kernel_rfl) rfl ?_
                  refine ⟨⟨_, rfl, ?_⟩, trivial⟩
                  · skip
                    refine op_fn rfl rfl rfl hH279 (c90 (h0.now hH279 (n := 8) rfl) (Heap.rdw T.el39_encI hH279 (n := 1) rfl) (Heap.rdw T.el39_encI hH279 (n := 2) rfl) (by omega) (by omega)) (fun u282 w280 lo283 hi284 hH281 hv285 => ?_)
                    obtain ⟨f287, hu, -⟩ := hv285
                    subst hu
                    have hH286 := Heap.agg3 hH281 (n := 0) rfl
                    refine ops_nil ?_
                    refine ⟨(hH286.sub (List.Sublist.cons _ (List.Sublist.cons _ (List.Sublist.cons _ (List.Sublist.cons _ (List.Sublist.cons_cons _ (List.Sublist.cons_cons _ (List.Sublist.cons_cons _ (List.Sublist.cons _ (List.Sublist.refl _)))))))))), ?_⟩
                    refine any_all [12] (by kernel_rfl) rfl ?_
                    refine ⟨⟨_, rfl, ?_⟩, trivial⟩
                    · skip
                      refine op_store (n := 7) (j := 0) (us := [u270, u275, f287]) rfl rfl hH286 rfl T.sz41 rfl rfl rfl (all_one (SliceIs.one1 (Heap.rdw T.el39_encI hH286 (n := 2) rfl).is) (all_one (SliceIs.one1 (Heap.rdw T.el39_encI hH286 (n := 3) rfl).is) (all_one (SliceIs.one1 (Heap.rdw T.el39_encI hH286 (n := 0) rfl).is) rfl))) (fun w288 hH289 => ?_)
                      refine ops_nil ?_
                      refine ⟨(hH289.sub (List.Sublist.cons _ (List.Sublist.cons _ (List.Sublist.cons _ (List.Sublist.cons _ (List.Sublist.cons_cons _ (List.Sublist.cons_cons _ (List.Sublist.cons_cons _ (List.Sublist.cons _ (List.Sublist.refl _)))))))))), ?_⟩
                      refine any_done (by kernel_rfl) ?_
                      refine thn_n ?_
                      refine ret ?_
                      refine thn_r ?_
                      have hH290 := (hH289.sub (List.Sublist.cons_cons _ (List.Sublist.cons _ (List.Sublist.cons_cons _ (List.Sublist.cons_cons _ (List.Sublist.cons _ (List.Sublist.cons _ (List.Sublist.cons _ (List.Sublist.cons_cons _ (List.Sublist.cons _ (List.Sublist.refl _)))))))))))
                      refine fin (hH290.front (n := 4) rfl) (fun w' hf => (res1 rfl (rvA (cs := [u270, u275, f287]) rfl T.agg41 rfl (bx_cells (Heap.bxw hf (n := 4) rfl) (k := 0) rfl)))) (fun w' hf => ?_)
                      rw [S.planOrd_t hk2 hus]; exact ⟨_, _, _, rfl, Heap.rdw T.el39_encI hf (n := 1) rfl, Heap.rdw T.el39_encI hf (n := 2) rfl, Heap.rdw T.el39_encI hf (n := 0) rfl⟩
          · skip
            refine op_lit (us := [(0, (.int .i64 (bestTo (S.longer1 js) (S.shortsTo js k) ((S.shortsTo js k).length - 1))))]) T.el39_encI [(bestTo (S.longer1 js) (S.shortsTo js k) ((S.shortsTo js k).length - 1))] rfl (by decide) rfl (fun a ha => by simp [ha.ev (show ev _ (.tmp 72) = some _ from rfl)]) (fun w => by kernel_rfl) hH257 (fun u291 lo293 hi294 w292 hH295 => ?_)
            refine ops_nil ?_
            refine ⟨(hH295.sub (List.Sublist.cons _ (List.Sublist.cons _ (List.Sublist.cons_cons _ (List.Sublist.cons_cons _ (List.Sublist.cons_cons _ (List.Sublist.cons _ (List.Sublist.refl _)))))))), ?_⟩
            refine any_all [2] (by kernel_rfl) rfl ?_
            refine ⟨⟨_, rfl, ?_⟩, trivial⟩
            · skip
              refine op_fn rfl rfl rfl hH295 (c91 (Heap.rdw T.el39_encI hH295 (n := 2) rfl) (by rw [List.length_append]; omega)) (fun u298 w296 lo299 hi300 hH297 hv301 => ?_)
              have hH302 := Heap.toOw hH297 (n := 0) rfl
              refine ops_nil ?_
              refine ⟨(hH302.sub (List.Sublist.cons _ (List.Sublist.cons _ (List.Sublist.cons _ (List.Sublist.cons_cons _ (List.Sublist.cons_cons _ (List.Sublist.cons_cons _ (List.Sublist.cons _ (List.Sublist.refl _))))))))), ?_⟩
              refine any_all [5] (by kernel_rfl) rfl ?_
              refine ⟨⟨_, rfl, ?_⟩, trivial⟩
              · skip
                refine op_append (n := 0) T.el39_encI rfl rfl rfl hH302 rfl (Heap.rdw T.el39_encI hH302 (n := 1) rfl) (by first | omega | (simp only [List.length_append, List.length_cons, List.length_nil]; omega)) (fun u303 lo305 hi306 w304 hH307 => ?_)
                refine ops_nil ?_
                refine ⟨(hH307.sub (List.Sublist.cons _ (List.Sublist.cons _ (List.Sublist.cons _ (List.Sublist.cons_cons _ (List.Sublist.cons_cons _ (List.Sublist.cons_cons _ (List.Sublist.cons _ (List.Sublist.refl _))))))))), ?_⟩
                refine any_all [9] (by kernel_rfl) rfl ?_
                refine ⟨⟨_, rfl, ?_⟩, trivial⟩
                · skip
                  refine op_append (n := 2) T.el39_encI rfl rfl rfl hH307 rfl (Heap.rdw T.el39_encI hH307 (n := 3) rfl) (by first | omega | (simp only [List.length_append, List.length_cons, List.length_nil]; omega)) (fun u308 lo310 hi311 w309 hH312 => ?_)
                  refine ops_nil ?_
                  refine ⟨(hH312.sub (List.Sublist.cons _ (List.Sublist.cons _ (List.Sublist.cons _ (List.Sublist.cons_cons _ (List.Sublist.cons_cons _ (List.Sublist.cons_cons _ (List.Sublist.cons _ (List.Sublist.refl _))))))))), ?_⟩
                  refine any_all [11] (by kernel_rfl) rfl ?_
                  refine ⟨⟨_, rfl, ?_⟩, trivial⟩
                  · skip
                    refine op_fn rfl rfl rfl hH312 (c90 (h0.now hH312 (n := 8) rfl) (Heap.rdw T.el39_encI hH312 (n := 0) rfl) (Heap.rdw T.el39_encI hH312 (n := 2) rfl) (by omega) (by omega)) (fun u315 w313 lo316 hi317 hH314 hv318 => ?_)
                    obtain ⟨f320, hu, -⟩ := hv318
                    subst hu
                    have hH319 := Heap.agg3 hH314 (n := 0) rfl
                    refine ops_nil ?_
                    refine ⟨(hH319.sub (List.Sublist.cons _ (List.Sublist.cons _ (List.Sublist.cons _ (List.Sublist.cons _ (List.Sublist.cons_cons _ (List.Sublist.cons_cons _ (List.Sublist.cons_cons _ (List.Sublist.cons _ (List.Sublist.refl _)))))))))), ?_⟩
                    refine any_all [12] (by kernel_rfl) rfl ?_
                    refine ⟨⟨_, rfl, ?_⟩, trivial⟩
                    · skip
                      refine op_store (n := 7) (j := 0) (us := [u303, u308, f320]) rfl rfl hH319 rfl T.sz41 rfl rfl rfl (all_one (SliceIs.one1 (Heap.rdw T.el39_encI hH319 (n := 1) rfl).is) (all_one (SliceIs.one1 (Heap.rdw T.el39_encI hH319 (n := 3) rfl).is) (all_one (SliceIs.one1 (Heap.rdw T.el39_encI hH319 (n := 0) rfl).is) rfl))) (fun w321 hH322 => ?_)
                      refine ops_nil ?_
                      refine ⟨(hH322.sub (List.Sublist.cons _ (List.Sublist.cons _ (List.Sublist.cons _ (List.Sublist.cons _ (List.Sublist.cons_cons _ (List.Sublist.cons_cons _ (List.Sublist.cons_cons _ (List.Sublist.cons _ (List.Sublist.refl _)))))))))), ?_⟩
                      refine any_done (by kernel_rfl) ?_
                      refine thn_n ?_
                      refine ret ?_
                      refine thn_r ?_
                      have hH323 := (hH322.sub (List.Sublist.cons_cons _ (List.Sublist.cons_cons _ (List.Sublist.cons _ (List.Sublist.cons_cons _ (List.Sublist.cons _ (List.Sublist.cons _ (List.Sublist.cons _ (List.Sublist.cons_cons _ (List.Sublist.cons _ (List.Sublist.refl _)))))))))))
                      refine fin (hH323.front (n := 4) rfl) (fun w' hf => (res1 rfl (rvA (cs := [u303, u308, f320]) rfl T.agg41 rfl (bx_cells (Heap.bxw hf (n := 4) rfl) (k := 0) rfl)))) (fun w' hf => ?_)
                      rw [S.planOrd_t hk2 hus]; exact ⟨_, _, _, rfl, Heap.rdw T.el39_encI hf (n := 1) rfl, Heap.rdw T.el39_encI hf (n := 2) rfl, Heap.rdw T.el39_encI hf (n := 0) rfl⟩
      · skip
        refine any_takes [4, 5, 6, 7] (by kernel_rfl) hH42 _ _ _ (by kernel_rfl) ?_
        refine qs_yes rfl rfl rfl (decide_eq_false hc43) rfl (yv_move rfl) ?_
        refine qs_yes rfl rfl rfl (decide_eq_false hc43) rfl (yv_len T.sl39 rfl (Heap.rdw T.el39_encI hH42 (n := 1) rfl).is) ?_
        refine qs_yes rfl rfl rfl (decide_eq_false hc43) rfl (yv_gtr rfl rfl) ?_
        refine qs_yes rfl rfl rfl (decide_eq_false hc43) rfl (yv_move rfl) ?_
        refine qs_nil ?_
        by_cases hc324 : 0 < ((S.shortsTo js k).length : Int)
        · skip
          refine any_takes [8, 9, 10, 15, 16, 17] (by kernel_rfl) hH42 _ _ _ (by kernel_rfl) ?_
          refine qs_yes rfl rfl rfl (decide_eq_true hc324) rfl (yv_load T.one22 rfl (fun _ hw => Heap.cellw hw (n := 3) rfl rfl)) ?_
          refine qs_yes rfl rfl rfl (decide_eq_true hc324) rfl (yv_move rfl) ?_
          refine qs_yes rfl rfl rfl (decide_eq_true hc324) rfl (yv_move rfl) ?_
          refine qs_yes rfl rfl rfl (decide_eq_true hc324) rfl (yv_load T.one22 rfl (fun _ hw => Heap.cellw hw (n := 3) rfl rfl)) ?_
          refine qs_yes rfl rfl rfl (decide_eq_true hc324) rfl (yv_move rfl) ?_
          refine qs_yes rfl rfl rfl (decide_eq_true hc324) rfl (yv_move rfl) ?_
          refine qs_nil ?_
          refine any_all [11] (by kernel_rfl) rfl ?_
          refine ⟨⟨_, rfl, ?_⟩, trivial⟩
          · skip
            refine guard_yes rfl rfl (decide_eq_true hc324) ?_
            refine op_fnV rfl rfl rfl hH42 (c88_86 (Heap.rdw T.el39_encI hH42 (n := 1) rfl) (Heap.bxw hH42 (n := 3) rfl) (h0.now hH42 (n := 4) rfl) (by omega) (by omega) (fun i hi => by have := S.shorts_in i hi; omega)) (fun w325 hH326 => ?_)
            refine ops_nil ?_
            refine ⟨hH326, ?_⟩
            refine any_takes [12, 13, 14] (by kernel_rfl) hH326 _ _ _ (by kernel_rfl) ?_
            refine qs_yes rfl rfl rfl (decide_eq_true hc324) rfl (yv_index T.sl22 rfl rfl (h0.now hH326 (n := 4) rfl).is (by omega)) ?_
            refine qs_yes rfl rfl rfl (decide_eq_true hc324) rfl (yv_field T.f71_0 rfl) ?_
            refine qs_yes rfl rfl rfl (decide_eq_true hc324) rfl (yv_load T.one2 rfl (fun _ hw => Rd.at (h0.now hw (n := 4) rfl) (i := (bestTo (S.longer1 js) (S.shortsTo js k) ((S.shortsTo js k).length - 1))) (by omega) (j := 0) rfl)) ?_
            refine qs_nil ?_
            refine any_all [18] (by kernel_rfl) rfl ?_
            refine ⟨⟨_, rfl, ?_⟩, trivial⟩
            · skip
              refine guard_yes rfl rfl (decide_eq_true hc324) ?_
              refine op_fnV rfl rfl rfl hH326 (c88_87 (Heap.rdw T.el39_encI hH326 (n := 0) rfl) (Heap.bxw hH326 (n := 3) rfl) (h0.now hH326 (n := 4) rfl) (by omega) (by omega) (fun i hi => by have := S.longs_in i hi; omega)) (fun w327 hH328 => ?_)
              refine ops_nil ?_
              refine ⟨hH328, ?_⟩
              refine any_takes [19, 20, 21, 22, 23, 24] (by kernel_rfl) hH328 _ _ _ (by kernel_rfl) ?_
              refine qs_yes rfl rfl rfl (decide_eq_true hc324) rfl (yv_index T.sl22 rfl rfl (h0.now hH328 (n := 4) rfl).is (by omega)) ?_
              refine qs_yes rfl rfl rfl (decide_eq_true hc324) rfl (yv_field T.f71_1 rfl) ?_
              refine qs_yes rfl rfl rfl (decide_eq_true hc324) rfl (yv_load T.one2 rfl (fun _ hw => Rd.at (h0.now hw (n := 4) rfl) (i := (bestTo (S.longer2 js) (S.longsTo js k) ((S.longsTo js k).length - 1))) (by omega) (j := 1) rfl)) ?_
              refine qs_yes rfl rfl rfl (decide_eq_true hc324) rfl (yv_geq rfl rfl) ?_
              refine qs_yes rfl rfl rfl (decide_eq_false hc43) rfl (yv_pick_t rfl (decide_eq_true hc324) rfl) ?_
              refine qs_y rfl rfl (yv_pick_f rfl (decide_eq_false hc43) rfl) ?_
              refine qs_nil ?_
              refine any_done (by kernel_rfl) ?_
              refine thn_n ?_
              by_cases hc329 : ((nth js (bestTo (S.longer2 js) (S.longsTo js k) ((S.longsTo js k).length - 1))).2) ≤ ((nth js (bestTo (S.longer1 js) (S.shortsTo js k) ((S.shortsTo js k).length - 1))).1)
              · skip
                refine cond_t rfl (decide_eq_true hc329) ?_
                refine seq ?_
                have hus : S.useShort js k := by unfold S.useShort S.longR S.shortR; omega
                have hsr := S.shortR_in (l := js) (k := k) (by omega)
                have hfl := List.length_filter_le (fun y : Int => !decide (y = S.shortR js k)) (S.shortsTo js k)
                unfold S.shortR at hfl hsr
                refine region ?_
                refine ops_y hH328 rfl rfl (yv_move rfl) ?_
                refine ops_y hH328 rfl rfl (yv_move rfl) ?_
                refine op_fnV rfl rfl rfl hH328 (c88_86 (Heap.rdw T.el39_encI hH328 (n := 1) rfl) (Heap.bxw hH328 (n := 3) rfl) (h0.now hH328 (n := 4) rfl) (by omega) (by omega) (fun i hi => by have := S.shorts_in i hi; omega)) (fun w330 hH331 => ?_)
                refine ops_y hH331 rfl rfl (yv_assign rfl) ?_
                refine ops_nil ?_
                refine thn_n ?_
                refine seq ?_
                refine region ?_
                refine ops_y hH331 rfl rfl (yv_move rfl) ?_
                refine ops_y hH331 rfl rfl (yv_move rfl) ?_
                refine op_fn rfl rfl rfl hH331 (c89 (Heap.rdw T.el39_encI hH331 (n := 1) rfl) (by omega) (by omega)) (fun u334 w332 lo335 hi336 hH333 hv337 => ?_)
                have hH338 := Heap.toOw hH333 (n := 0) rfl
                refine ops_y hH338 rfl rfl (yv_move rfl) ?_
                refine op_append (n := 0) T.el39_encI rfl rfl rfl hH338 rfl (Heap.rdw T.el39_encI hH338 (n := 1) rfl) (by first | omega | (simp only [List.length_append, List.length_cons, List.length_nil]; omega)) (fun u339 lo341 hi342 w340 hH343 => ?_)
                refine ops_y hH343 rfl rfl (yv_assign rfl) ?_
                refine ops_nil ?_
                refine thn_n ?_
                refine seq ?_
                refine region_draw (fun w' => Heap [ow lo341 hi342 3 1 encI u339 (((S.shortsTo js k).filter fun y => !decide (y = (bestTo (S.longer1 js) (S.shortsTo js k) ((S.shortsTo js k).length - 1)))) ++ (S.longsTo js k)), ow lo_4 hi_4 3 1 encI v_4 (S.longsTo js k), ow lo_3 hi_3 3 1 encI v_3 (S.shortsTo js k), bx b1 22 [v], base w] w') T.mixed (fun w344 hr345 => ?_)
                have hH346 := hH343.redrawn hr345
                refine any_takes [0, 1, 3, 6, 8, 10] (by kernel_rfl) (hH346.sub (List.Sublist.cons_cons _ (List.Sublist.cons_cons _ (List.Sublist.cons_cons _ (List.Sublist.cons _ (List.Sublist.refl _)))))) _ _ _ (by kernel_rfl) ?_
                refine qs_y rfl rfl (yv_load T.one22 rfl (fun _ hw => Heap.cellw hw (n := 3) rfl rfl)) ?_
                refine qs_y rfl rfl (yv_move rfl) ?_
                refine qs_y rfl rfl (yv_move rfl) ?_
                refine qs_y rfl rfl (yv_move rfl) ?_
                refine qs_y rfl rfl (yv_move rfl) ?_
                refine qs_y rfl rfl (yv_move rfl) ?_
                refine qs_nil ?_
                refine any_all [2, 4, 7] (by kernel_rfl) rfl ?_
                refine ⟨⟨_, rfl, ?_⟩, ⟨_, rfl, ?_⟩, ⟨_, rfl, ?_⟩, trivial⟩
                · skip
                  refine op_fn rfl rfl rfl hH346 (c91 (Heap.rdw T.el39_encI hH346 (n := 0) rfl) (by rw [List.length_append]; omega)) (fun u349 w347 lo350 hi351 hH348 hv352 => ?_)
                  have hH353 := Heap.toOw hH348 (n := 0) rfl
                  refine ops_nil ?_
                  refine ⟨(hH353.sub (List.Sublist.cons _ (List.Sublist.cons_cons _ (List.Sublist.cons_cons _ (List.Sublist.cons_cons _ (List.Sublist.cons _ (List.Sublist.refl _))))))), ?_⟩
                  refine any_all [4, 7] (by kernel_rfl) rfl ?_
                  refine ⟨⟨_, rfl, ?_⟩, ⟨_, rfl, ?_⟩, trivial⟩
                  · skip
                    refine op_lit (us := [(0, (.int .i64 (bestTo (S.longer1 js) (S.shortsTo js k) ((S.shortsTo js k).length - 1))))]) T.el39_encI [(bestTo (S.longer1 js) (S.shortsTo js k) ((S.shortsTo js k).length - 1))] rfl (by decide) rfl (fun a ha => by simp [ha.ev (show ev _ (.tmp 72) = some _ from rfl)]) (fun w => by kernel_rfl) hH353 (fun u354 lo356 hi357 w355 hH358 => ?_)
                    refine ops_nil ?_
                    refine ⟨(hH358.sub (List.Sublist.cons _ (List.Sublist.cons _ (List.Sublist.cons_cons _ (List.Sublist.cons_cons _ (List.Sublist.cons_cons _ (List.Sublist.cons _ (List.Sublist.refl _)))))))), ?_⟩
                    refine any_all [5, 7] (by kernel_rfl) rfl ?_
                    refine ⟨⟨_, rfl, ?_⟩, ⟨_, rfl, ?_⟩, trivial⟩
                    · skip
                      refine op_append (n := 1) T.el39_encI rfl rfl rfl hH358 rfl (Heap.rdw T.el39_encI hH358 (n := 0) rfl) (by first | omega | (simp only [List.length_append, List.length_cons, List.length_nil]; omega)) (fun u359 lo361 hi362 w360 hH363 => ?_)
                      refine ops_nil ?_
                      refine ⟨(hH363.sub (List.Sublist.cons _ (List.Sublist.cons _ (List.Sublist.cons_cons _ (List.Sublist.cons_cons _ (List.Sublist.cons_cons _ (List.Sublist.cons _ (List.Sublist.refl _)))))))), ?_⟩
                      refine any_all [7] (by kernel_rfl) rfl ?_
                      refine ⟨⟨_, rfl, ?_⟩, trivial⟩
                      · skip
                        refine op_lit (us := [(0, (.int .i64 (bestTo (S.longer1 js) (S.shortsTo js k) ((S.shortsTo js k).length - 1))))]) T.el39_encI [(bestTo (S.longer1 js) (S.shortsTo js k) ((S.shortsTo js k).length - 1))] rfl (by decide) rfl (fun a ha => by simp [ha.ev (show ev _ (.tmp 75) = some _ from rfl)]) (fun w => by kernel_rfl) hH363 (fun u364 lo366 hi367 w365 hH368 => ?_)
                        refine ops_nil ?_
                        refine ⟨(hH368.sub (List.Sublist.cons _ (List.Sublist.cons _ (List.Sublist.cons _ (List.Sublist.cons_cons _ (List.Sublist.cons_cons _ (List.Sublist.cons_cons _ (List.Sublist.cons _ (List.Sublist.refl _))))))))), ?_⟩
                        refine any_all [9] (by kernel_rfl) rfl ?_
                        refine ⟨⟨_, rfl, ?_⟩, trivial⟩
                        · skip
                          refine op_append (n := 0) T.el39_encI rfl rfl rfl hH368 rfl (Heap.rdw T.el39_encI hH368 (n := 3) rfl) (by first | omega | (simp only [List.length_append, List.length_cons, List.length_nil]; omega)) (fun u369 lo371 hi372 w370 hH373 => ?_)
                          refine ops_nil ?_
                          refine ⟨(hH373.sub (List.Sublist.cons _ (List.Sublist.cons _ (List.Sublist.cons _ (List.Sublist.cons_cons _ (List.Sublist.cons_cons _ (List.Sublist.cons_cons _ (List.Sublist.cons _ (List.Sublist.refl _))))))))), ?_⟩
                          refine any_all [11] (by kernel_rfl) rfl ?_
                          refine ⟨⟨_, rfl, ?_⟩, trivial⟩
                          · skip
                            refine op_fn rfl rfl rfl hH373 (c90 (h0.now hH373 (n := 8) rfl) (Heap.rdw T.el39_encI hH373 (n := 2) rfl) (Heap.rdw T.el39_encI hH373 (n := 0) rfl) (by omega) (by omega)) (fun u376 w374 lo377 hi378 hH375 hv379 => ?_)
                            obtain ⟨f381, hu, -⟩ := hv379
                            subst hu
                            have hH380 := Heap.agg3 hH375 (n := 0) rfl
                            refine ops_nil ?_
                            refine ⟨(hH380.sub (List.Sublist.cons _ (List.Sublist.cons _ (List.Sublist.cons _ (List.Sublist.cons _ (List.Sublist.cons_cons _ (List.Sublist.cons_cons _ (List.Sublist.cons_cons _ (List.Sublist.cons _ (List.Sublist.refl _)))))))))), ?_⟩
                            refine any_all [12] (by kernel_rfl) rfl ?_
                            refine ⟨⟨_, rfl, ?_⟩, trivial⟩
                            · skip
                              refine op_store (n := 7) (j := 0) (us := [u359, u369, f381]) rfl rfl hH380 rfl T.sz41 rfl rfl rfl (all_one (SliceIs.one1 (Heap.rdw T.el39_encI hH380 (n := 3) rfl).is) (all_one (SliceIs.one1 (Heap.rdw T.el39_encI hH380 (n := 1) rfl).is) (all_one (SliceIs.one1 (Heap.rdw T.el39_encI hH380 (n := 0) rfl).is) rfl))) (fun w382 hH383 => ?_)
                              refine ops_nil ?_
                              refine ⟨(hH383.sub (List.Sublist.cons _ (List.Sublist.cons _ (List.Sublist.cons _ (List.Sublist.cons _ (List.Sublist.cons_cons _ (List.Sublist.cons_cons _ (List.Sublist.cons_cons _ (List.Sublist.cons _ (List.Sublist.refl _)))))))))), ?_⟩
                              refine any_done (by kernel_rfl) ?_
                              refine thn_n ?_
                              refine ret ?_
                              refine thn_r ?_
                              have hH384 := (hH383.sub (List.Sublist.cons_cons _ (List.Sublist.cons_cons _ (List.Sublist.cons _ (List.Sublist.cons_cons _ (List.Sublist.cons _ (List.Sublist.cons _ (List.Sublist.cons _ (List.Sublist.cons_cons _ (List.Sublist.cons _ (List.Sublist.refl _)))))))))))
                              refine fin (hH384.front (n := 4) rfl) (fun w' hf => (res1 rfl (rvA (cs := [u359, u369, f381]) rfl T.agg41 rfl (bx_cells (Heap.bxw hf (n := 4) rfl) (k := 0) rfl)))) (fun w' hf => ?_)
                              rw [S.planOrd_t hk2 hus]; exact ⟨_, _, _, rfl, Heap.rdw T.el39_encI hf (n := 2) rfl, Heap.rdw T.el39_encI hf (n := 1) rfl, Heap.rdw T.el39_encI hf (n := 0) rfl⟩
                    · skip
                      refine op_lit (us := [(0, (.int .i64 (bestTo (S.longer1 js) (S.shortsTo js k) ((S.shortsTo js k).length - 1))))]) T.el39_encI [(bestTo (S.longer1 js) (S.shortsTo js k) ((S.shortsTo js k).length - 1))] rfl (by decide) rfl (fun a ha => by simp [ha.ev (show ev _ (.tmp 75) = some _ from rfl)]) (fun w => by kernel_rfl) hH358 (fun u385 lo387 hi388 w386 hH389 => ?_)
                      refine ops_nil ?_
                      refine ⟨(hH389.sub (List.Sublist.cons _ (List.Sublist.cons _ (List.Sublist.cons _ (List.Sublist.cons_cons _ (List.Sublist.cons_cons _ (List.Sublist.cons_cons _ (List.Sublist.cons _ (List.Sublist.refl _))))))))), ?_⟩
                      refine any_all [5] (by kernel_rfl) rfl ?_
                      refine ⟨⟨_, rfl, ?_⟩, trivial⟩
                      · skip
                        refine op_append (n := 2) T.el39_encI rfl rfl rfl hH389 rfl (Heap.rdw T.el39_encI hH389 (n := 1) rfl) (by first | omega | (simp only [List.length_append, List.length_cons, List.length_nil]; omega)) (fun u390 lo392 hi393 w391 hH394 => ?_)
                        refine ops_nil ?_
                        refine ⟨(hH394.sub (List.Sublist.cons _ (List.Sublist.cons _ (List.Sublist.cons _ (List.Sublist.cons_cons _ (List.Sublist.cons_cons _ (List.Sublist.cons_cons _ (List.Sublist.cons _ (List.Sublist.refl _))))))))), ?_⟩
                        refine any_all [9] (by kernel_rfl) rfl ?_
                        refine ⟨⟨_, rfl, ?_⟩, trivial⟩
                        · skip
                          refine op_append (n := 0) T.el39_encI rfl rfl rfl hH394 rfl (Heap.rdw T.el39_encI hH394 (n := 3) rfl) (by first | omega | (simp only [List.length_append, List.length_cons, List.length_nil]; omega)) (fun u395 lo397 hi398 w396 hH399 => ?_)
                          refine ops_nil ?_
                          refine ⟨(hH399.sub (List.Sublist.cons _ (List.Sublist.cons _ (List.Sublist.cons _ (List.Sublist.cons_cons _ (List.Sublist.cons_cons _ (List.Sublist.cons_cons _ (List.Sublist.cons _ (List.Sublist.refl _))))))))), ?_⟩
                          refine any_all [11] (by kernel_rfl) rfl ?_
                          refine ⟨⟨_, rfl, ?_⟩, trivial⟩
                          · skip
                            refine op_fn rfl rfl rfl hH399 (c90 (h0.now hH399 (n := 8) rfl) (Heap.rdw T.el39_encI hH399 (n := 2) rfl) (Heap.rdw T.el39_encI hH399 (n := 0) rfl) (by omega) (by omega)) (fun u402 w400 lo403 hi404 hH401 hv405 => ?_)
                            obtain ⟨f407, hu, -⟩ := hv405
                            subst hu
                            have hH406 := Heap.agg3 hH401 (n := 0) rfl
                            refine ops_nil ?_
                            refine ⟨(hH406.sub (List.Sublist.cons _ (List.Sublist.cons _ (List.Sublist.cons _ (List.Sublist.cons _ (List.Sublist.cons_cons _ (List.Sublist.cons_cons _ (List.Sublist.cons_cons _ (List.Sublist.cons _ (List.Sublist.refl _)))))))))), ?_⟩
                            refine any_all [12] (by kernel_rfl) rfl ?_
                            refine ⟨⟨_, rfl, ?_⟩, trivial⟩
                            · skip
                              refine op_store (n := 7) (j := 0) (us := [u390, u395, f407]) rfl rfl hH406 rfl T.sz41 rfl rfl rfl (all_one (SliceIs.one1 (Heap.rdw T.el39_encI hH406 (n := 3) rfl).is) (all_one (SliceIs.one1 (Heap.rdw T.el39_encI hH406 (n := 1) rfl).is) (all_one (SliceIs.one1 (Heap.rdw T.el39_encI hH406 (n := 0) rfl).is) rfl))) (fun w408 hH409 => ?_)
                              refine ops_nil ?_
                              refine ⟨(hH409.sub (List.Sublist.cons _ (List.Sublist.cons _ (List.Sublist.cons _ (List.Sublist.cons _ (List.Sublist.cons_cons _ (List.Sublist.cons_cons _ (List.Sublist.cons_cons _ (List.Sublist.cons _ (List.Sublist.refl _)))))))))), ?_⟩
                              refine any_done (by kernel_rfl) ?_
                              refine thn_n ?_
                              refine ret ?_
                              refine thn_r ?_
                              have hH410 := (hH409.sub (List.Sublist.cons_cons _ (List.Sublist.cons_cons _ (List.Sublist.cons _ (List.Sublist.cons_cons _ (List.Sublist.cons _ (List.Sublist.cons _ (List.Sublist.cons _ (List.Sublist.cons_cons _ (List.Sublist.cons _ (List.Sublist.refl _)))))))))))
                              refine fin (hH410.front (n := 4) rfl) (fun w' hf => (res1 rfl (rvA (cs := [u390, u395, f407]) rfl T.agg41 rfl (bx_cells (Heap.bxw hf (n := 4) rfl) (k := 0) rfl)))) (fun w' hf => ?_)
                              rw [S.planOrd_t hk2 hus]; exact ⟨_, _, _, rfl, Heap.rdw T.el39_encI hf (n := 2) rfl, Heap.rdw T.el39_encI hf (n := 1) rfl, Heap.rdw T.el39_encI hf (n := 0) rfl⟩
                  · skip
                    refine op_lit (us := [(0, (.int .i64 (bestTo (S.longer1 js) (S.shortsTo js k) ((S.shortsTo js k).length - 1))))]) T.el39_encI [(bestTo (S.longer1 js) (S.shortsTo js k) ((S.shortsTo js k).length - 1))] rfl (by decide) rfl (fun a ha => by simp [ha.ev (show ev _ (.tmp 75) = some _ from rfl)]) (fun w => by kernel_rfl) hH353 (fun u411 lo413 hi414 w412 hH415 => ?_)
                    refine ops_nil ?_
                    refine ⟨(hH415.sub (List.Sublist.cons _ (List.Sublist.cons _ (List.Sublist.cons_cons _ (List.Sublist.cons_cons _ (List.Sublist.cons_cons _ (List.Sublist.cons _ (List.Sublist.refl _)))))))), ?_⟩
                    refine any_all [4] (by kernel_rfl) rfl ?_
                    refine ⟨⟨_, rfl, ?_⟩, trivial⟩
                    · skip
                      refine op_lit (us := [(0, (.int .i64 (bestTo (S.longer1 js) (S.shortsTo js k) ((S.shortsTo js k).length - 1))))]) T.el39_encI [(bestTo (S.longer1 js) (S.shortsTo js k) ((S.shortsTo js k).length - 1))] rfl (by decide) rfl (fun a ha => by simp [ha.ev (show ev _ (.tmp 72) = some _ from rfl)]) (fun w => by kernel_rfl) hH415 (fun u416 lo418 hi419 w417 hH420 => ?_)
                      refine ops_nil ?_
                      refine ⟨(hH420.sub (List.Sublist.cons _ (List.Sublist.cons _ (List.Sublist.cons _ (List.Sublist.cons_cons _ (List.Sublist.cons_cons _ (List.Sublist.cons_cons _ (List.Sublist.cons _ (List.Sublist.refl _))))))))), ?_⟩
                      refine any_all [5] (by kernel_rfl) rfl ?_
                      refine ⟨⟨_, rfl, ?_⟩, trivial⟩
                      · skip
                        refine op_append (n := 2) T.el39_encI rfl rfl rfl hH420 rfl (Heap.rdw T.el39_encI hH420 (n := 0) rfl) (by first | omega | (simp only [List.length_append, List.length_cons, List.length_nil]; omega)) (fun u421 lo423 hi424 w422 hH425 => ?_)
                        refine ops_nil ?_
                        refine ⟨(hH425.sub (List.Sublist.cons _ (List.Sublist.cons _ (List.Sublist.cons _ (List.Sublist.cons_cons _ (List.Sublist.cons_cons _ (List.Sublist.cons_cons _ (List.Sublist.cons _ (List.Sublist.refl _))))))))), ?_⟩
                        refine any_all [9] (by kernel_rfl) rfl ?_
                        refine ⟨⟨_, rfl, ?_⟩, trivial⟩
                        · skip
                          refine op_append (n := 1) T.el39_encI rfl rfl rfl hH425 rfl (Heap.rdw T.el39_encI hH425 (n := 3) rfl) (by first | omega | (simp only [List.length_append, List.length_cons, List.length_nil]; omega)) (fun u426 lo428 hi429 w427 hH430 => ?_)
                          refine ops_nil ?_
                          refine ⟨(hH430.sub (List.Sublist.cons _ (List.Sublist.cons _ (List.Sublist.cons _ (List.Sublist.cons_cons _ (List.Sublist.cons_cons _ (List.Sublist.cons_cons _ (List.Sublist.cons _ (List.Sublist.refl _))))))))), ?_⟩
                          refine any_all [11] (by kernel_rfl) rfl ?_
                          refine ⟨⟨_, rfl, ?_⟩, trivial⟩
                          · skip
                            refine op_fn rfl rfl rfl hH430 (c90 (h0.now hH430 (n := 8) rfl) (Heap.rdw T.el39_encI hH430 (n := 2) rfl) (Heap.rdw T.el39_encI hH430 (n := 1) rfl) (by omega) (by omega)) (fun u433 w431 lo434 hi435 hH432 hv436 => ?_)
                            obtain ⟨f438, hu, -⟩ := hv436
                            subst hu
                            have hH437 := Heap.agg3 hH432 (n := 0) rfl
                            refine ops_nil ?_
                            refine ⟨(hH437.sub (List.Sublist.cons _ (List.Sublist.cons _ (List.Sublist.cons _ (List.Sublist.cons _ (List.Sublist.cons_cons _ (List.Sublist.cons_cons _ (List.Sublist.cons_cons _ (List.Sublist.cons _ (List.Sublist.refl _)))))))))), ?_⟩
                            refine any_all [12] (by kernel_rfl) rfl ?_
                            refine ⟨⟨_, rfl, ?_⟩, trivial⟩
                            · skip
                              refine op_store (n := 7) (j := 0) (us := [u421, u426, f438]) rfl rfl hH437 rfl T.sz41 rfl rfl rfl (all_one (SliceIs.one1 (Heap.rdw T.el39_encI hH437 (n := 3) rfl).is) (all_one (SliceIs.one1 (Heap.rdw T.el39_encI hH437 (n := 2) rfl).is) (all_one (SliceIs.one1 (Heap.rdw T.el39_encI hH437 (n := 0) rfl).is) rfl))) (fun w439 hH440 => ?_)
                              refine ops_nil ?_
                              refine ⟨(hH440.sub (List.Sublist.cons _ (List.Sublist.cons _ (List.Sublist.cons _ (List.Sublist.cons _ (List.Sublist.cons_cons _ (List.Sublist.cons_cons _ (List.Sublist.cons_cons _ (List.Sublist.cons _ (List.Sublist.refl _)))))))))), ?_⟩
                              refine any_done (by kernel_rfl) ?_
                              refine thn_n ?_
                              refine ret ?_
                              refine thn_r ?_
                              have hH441 := (hH440.sub (List.Sublist.cons_cons _ (List.Sublist.cons _ (List.Sublist.cons_cons _ (List.Sublist.cons_cons _ (List.Sublist.cons _ (List.Sublist.cons _ (List.Sublist.cons _ (List.Sublist.cons_cons _ (List.Sublist.cons _ (List.Sublist.refl _)))))))))))
                              refine fin (hH441.front (n := 4) rfl) (fun w' hf => (res1 rfl (rvA (cs := [u421, u426, f438]) rfl T.agg41 rfl (bx_cells (Heap.bxw hf (n := 4) rfl) (k := 0) rfl)))) (fun w' hf => ?_)
                              rw [S.planOrd_t hk2 hus]; exact ⟨_, _, _, rfl, Heap.rdw T.el39_encI hf (n := 2) rfl, Heap.rdw T.el39_encI hf (n := 1) rfl, Heap.rdw T.el39_encI hf (n := 0) rfl⟩
                · skip
                  refine op_lit (us := [(0, (.int .i64 (bestTo (S.longer1 js) (S.shortsTo js k) ((S.shortsTo js k).length - 1))))]) T.el39_encI [(bestTo (S.longer1 js) (S.shortsTo js k) ((S.shortsTo js k).length - 1))] rfl (by decide) rfl (fun a ha => by simp [ha.ev (show ev _ (.tmp 72) = some _ from rfl)]) (fun w => by kernel_rfl) hH346 (fun u442 lo444 hi445 w443 hH446 => ?_)
                  refine ops_nil ?_
                  refine ⟨(hH446.sub (List.Sublist.cons _ (List.Sublist.cons_cons _ (List.Sublist.cons_cons _ (List.Sublist.cons_cons _ (List.Sublist.cons _ (List.Sublist.refl _))))))), ?_⟩
                  refine any_all [2, 7] (by kernel_rfl) rfl ?_
                  refine ⟨⟨_, rfl, ?_⟩, ⟨_, rfl, ?_⟩, trivial⟩
                  · skip
                    refine op_fn rfl rfl rfl hH446 (c91 (Heap.rdw T.el39_encI hH446 (n := 1) rfl) (by rw [List.length_append]; omega)) (fun u449 w447 lo450 hi451 hH448 hv452 => ?_)
                    have hH453 := Heap.toOw hH448 (n := 0) rfl
                    refine ops_nil ?_
                    refine ⟨(hH453.sub (List.Sublist.cons _ (List.Sublist.cons _ (List.Sublist.cons_cons _ (List.Sublist.cons_cons _ (List.Sublist.cons_cons _ (List.Sublist.cons _ (List.Sublist.refl _)))))))), ?_⟩
                    refine any_all [5, 7] (by kernel_rfl) rfl ?_
                    refine ⟨⟨_, rfl, ?_⟩, ⟨_, rfl, ?_⟩, trivial⟩
                    · skip
                      refine op_append (n := 0) T.el39_encI rfl rfl rfl hH453 rfl (Heap.rdw T.el39_encI hH453 (n := 1) rfl) (by first | omega | (simp only [List.length_append, List.length_cons, List.length_nil]; omega)) (fun u454 lo456 hi457 w455 hH458 => ?_)
                      refine ops_nil ?_
                      refine ⟨(hH458.sub (List.Sublist.cons _ (List.Sublist.cons _ (List.Sublist.cons_cons _ (List.Sublist.cons_cons _ (List.Sublist.cons_cons _ (List.Sublist.cons _ (List.Sublist.refl _)))))))), ?_⟩
                      refine any_all [7] (by kernel_rfl) rfl ?_
                      refine ⟨⟨_, rfl, ?_⟩, trivial⟩
                      · skip
                        refine op_lit (us := [(0, (.int .i64 (bestTo (S.longer1 js) (S.shortsTo js k) ((S.shortsTo js k).length - 1))))]) T.el39_encI [(bestTo (S.longer1 js) (S.shortsTo js k) ((S.shortsTo js k).length - 1))] rfl (by decide) rfl (fun a ha => by simp [ha.ev (show ev _ (.tmp 75) = some _ from rfl)]) (fun w => by kernel_rfl) hH458 (fun u459 lo461 hi462 w460 hH463 => ?_)
                        refine ops_nil ?_
                        refine ⟨(hH463.sub (List.Sublist.cons _ (List.Sublist.cons _ (List.Sublist.cons _ (List.Sublist.cons_cons _ (List.Sublist.cons_cons _ (List.Sublist.cons_cons _ (List.Sublist.cons _ (List.Sublist.refl _))))))))), ?_⟩
                        refine any_all [9] (by kernel_rfl) rfl ?_
                        refine ⟨⟨_, rfl, ?_⟩, trivial⟩
                        · skip
                          refine op_append (n := 0) T.el39_encI rfl rfl rfl hH463 rfl (Heap.rdw T.el39_encI hH463 (n := 3) rfl) (by first | omega | (simp only [List.length_append, List.length_cons, List.length_nil]; omega)) (fun u464 lo466 hi467 w465 hH468 => ?_)
                          refine ops_nil ?_
                          refine ⟨(hH468.sub (List.Sublist.cons _ (List.Sublist.cons _ (List.Sublist.cons _ (List.Sublist.cons_cons _ (List.Sublist.cons_cons _ (List.Sublist.cons_cons _ (List.Sublist.cons _ (List.Sublist.refl _))))))))), ?_⟩
                          refine any_all [11] (by kernel_rfl) rfl ?_
                          refine ⟨⟨_, rfl, ?_⟩, trivial⟩
                          · skip
                            refine op_fn rfl rfl rfl hH468 (c90 (h0.now hH468 (n := 8) rfl) (Heap.rdw T.el39_encI hH468 (n := 1) rfl) (Heap.rdw T.el39_encI hH468 (n := 0) rfl) (by omega) (by omega)) (fun u471 w469 lo472 hi473 hH470 hv474 => ?_)
                            obtain ⟨f476, hu, -⟩ := hv474
                            subst hu
                            have hH475 := Heap.agg3 hH470 (n := 0) rfl
                            refine ops_nil ?_
                            refine ⟨(hH475.sub (List.Sublist.cons _ (List.Sublist.cons _ (List.Sublist.cons _ (List.Sublist.cons _ (List.Sublist.cons_cons _ (List.Sublist.cons_cons _ (List.Sublist.cons_cons _ (List.Sublist.cons _ (List.Sublist.refl _)))))))))), ?_⟩
                            refine any_all [12] (by kernel_rfl) rfl ?_
                            refine ⟨⟨_, rfl, ?_⟩, trivial⟩
                            · skip
                              refine op_store (n := 7) (j := 0) (us := [u454, u464, f476]) rfl rfl hH475 rfl T.sz41 rfl rfl rfl (all_one (SliceIs.one1 (Heap.rdw T.el39_encI hH475 (n := 2) rfl).is) (all_one (SliceIs.one1 (Heap.rdw T.el39_encI hH475 (n := 1) rfl).is) (all_one (SliceIs.one1 (Heap.rdw T.el39_encI hH475 (n := 0) rfl).is) rfl))) (fun w477 hH478 => ?_)
                              refine ops_nil ?_
                              refine ⟨(hH478.sub (List.Sublist.cons _ (List.Sublist.cons _ (List.Sublist.cons _ (List.Sublist.cons _ (List.Sublist.cons_cons _ (List.Sublist.cons_cons _ (List.Sublist.cons_cons _ (List.Sublist.cons _ (List.Sublist.refl _)))))))))), ?_⟩
                              refine any_done (by kernel_rfl) ?_
                              refine thn_n ?_
                              refine ret ?_
                              refine thn_r ?_
                              have hH479 := (hH478.sub (List.Sublist.cons_cons _ (List.Sublist.cons_cons _ (List.Sublist.cons_cons _ (List.Sublist.cons _ (List.Sublist.cons _ (List.Sublist.cons _ (List.Sublist.cons _ (List.Sublist.cons_cons _ (List.Sublist.cons _ (List.Sublist.refl _)))))))))))
                              refine fin (hH479.front (n := 4) rfl) (fun w' hf => (res1 rfl (rvA (cs := [u454, u464, f476]) rfl T.agg41 rfl (bx_cells (Heap.bxw hf (n := 4) rfl) (k := 0) rfl)))) (fun w' hf => ?_)
                              rw [S.planOrd_t hk2 hus]; exact ⟨_, _, _, rfl, Heap.rdw T.el39_encI hf (n := 2) rfl, Heap.rdw T.el39_encI hf (n := 1) rfl, Heap.rdw T.el39_encI hf (n := 0) rfl⟩
                    · skip
                      refine op_lit (us := [(0, (.int .i64 (bestTo (S.longer1 js) (S.shortsTo js k) ((S.shortsTo js k).length - 1))))]) T.el39_encI [(bestTo (S.longer1 js) (S.shortsTo js k) ((S.shortsTo js k).length - 1))] rfl (by decide) rfl (fun a ha => by simp [ha.ev (show ev _ (.tmp 75) = some _ from rfl)]) (fun w => by kernel_rfl) hH453 (fun u480 lo482 hi483 w481 hH484 => ?_)
                      refine ops_nil ?_
                      refine ⟨(hH484.sub (List.Sublist.cons _ (List.Sublist.cons _ (List.Sublist.cons _ (List.Sublist.cons_cons _ (List.Sublist.cons_cons _ (List.Sublist.cons_cons _ (List.Sublist.cons _ (List.Sublist.refl _))))))))), ?_⟩
                      refine any_all [5] (by kernel_rfl) rfl ?_
                      refine ⟨⟨_, rfl, ?_⟩, trivial⟩
                      · skip
                        refine op_append (n := 1) T.el39_encI rfl rfl rfl hH484 rfl (Heap.rdw T.el39_encI hH484 (n := 2) rfl) (by first | omega | (simp only [List.length_append, List.length_cons, List.length_nil]; omega)) (fun u485 lo487 hi488 w486 hH489 => ?_)
                        refine ops_nil ?_
                        refine ⟨(hH489.sub (List.Sublist.cons _ (List.Sublist.cons _ (List.Sublist.cons _ (List.Sublist.cons_cons _ (List.Sublist.cons_cons _ (List.Sublist.cons_cons _ (List.Sublist.cons _ (List.Sublist.refl _))))))))), ?_⟩
                        refine any_all [9] (by kernel_rfl) rfl ?_
                        refine ⟨⟨_, rfl, ?_⟩, trivial⟩
                        · skip
                          refine op_append (n := 0) T.el39_encI rfl rfl rfl hH489 rfl (Heap.rdw T.el39_encI hH489 (n := 3) rfl) (by first | omega | (simp only [List.length_append, List.length_cons, List.length_nil]; omega)) (fun u490 lo492 hi493 w491 hH494 => ?_)
                          refine ops_nil ?_
                          refine ⟨(hH494.sub (List.Sublist.cons _ (List.Sublist.cons _ (List.Sublist.cons _ (List.Sublist.cons_cons _ (List.Sublist.cons_cons _ (List.Sublist.cons_cons _ (List.Sublist.cons _ (List.Sublist.refl _))))))))), ?_⟩
                          refine any_all [11] (by kernel_rfl) rfl ?_
                          refine ⟨⟨_, rfl, ?_⟩, trivial⟩
                          · skip
                            refine op_fn rfl rfl rfl hH494 (c90 (h0.now hH494 (n := 8) rfl) (Heap.rdw T.el39_encI hH494 (n := 1) rfl) (Heap.rdw T.el39_encI hH494 (n := 0) rfl) (by omega) (by omega)) (fun u497 w495 lo498 hi499 hH496 hv500 => ?_)
                            obtain ⟨f502, hu, -⟩ := hv500
                            subst hu
                            have hH501 := Heap.agg3 hH496 (n := 0) rfl
                            refine ops_nil ?_
                            refine ⟨(hH501.sub (List.Sublist.cons _ (List.Sublist.cons _ (List.Sublist.cons _ (List.Sublist.cons _ (List.Sublist.cons_cons _ (List.Sublist.cons_cons _ (List.Sublist.cons_cons _ (List.Sublist.cons _ (List.Sublist.refl _)))))))))), ?_⟩
                            refine any_all [12] (by kernel_rfl) rfl ?_
                            refine ⟨⟨_, rfl, ?_⟩, trivial⟩
                            · skip
                              refine op_store (n := 7) (j := 0) (us := [u485, u490, f502]) rfl rfl hH501 rfl T.sz41 rfl rfl rfl (all_one (SliceIs.one1 (Heap.rdw T.el39_encI hH501 (n := 2) rfl).is) (all_one (SliceIs.one1 (Heap.rdw T.el39_encI hH501 (n := 1) rfl).is) (all_one (SliceIs.one1 (Heap.rdw T.el39_encI hH501 (n := 0) rfl).is) rfl))) (fun w503 hH504 => ?_)
                              refine ops_nil ?_
                              refine ⟨(hH504.sub (List.Sublist.cons _ (List.Sublist.cons _ (List.Sublist.cons _ (List.Sublist.cons _ (List.Sublist.cons_cons _ (List.Sublist.cons_cons _ (List.Sublist.cons_cons _ (List.Sublist.cons _ (List.Sublist.refl _)))))))))), ?_⟩
                              refine any_done (by kernel_rfl) ?_
                              refine thn_n ?_
                              refine ret ?_
                              refine thn_r ?_
                              have hH505 := (hH504.sub (List.Sublist.cons_cons _ (List.Sublist.cons_cons _ (List.Sublist.cons_cons _ (List.Sublist.cons _ (List.Sublist.cons _ (List.Sublist.cons _ (List.Sublist.cons _ (List.Sublist.cons_cons _ (List.Sublist.cons _ (List.Sublist.refl _)))))))))))
                              refine fin (hH505.front (n := 4) rfl) (fun w' hf => (res1 rfl (rvA (cs := [u485, u490, f502]) rfl T.agg41 rfl (bx_cells (Heap.bxw hf (n := 4) rfl) (k := 0) rfl)))) (fun w' hf => ?_)
                              rw [S.planOrd_t hk2 hus]; exact ⟨_, _, _, rfl, Heap.rdw T.el39_encI hf (n := 2) rfl, Heap.rdw T.el39_encI hf (n := 1) rfl, Heap.rdw T.el39_encI hf (n := 0) rfl⟩
                  · skip
                    refine op_lit (us := [(0, (.int .i64 (bestTo (S.longer1 js) (S.shortsTo js k) ((S.shortsTo js k).length - 1))))]) T.el39_encI [(bestTo (S.longer1 js) (S.shortsTo js k) ((S.shortsTo js k).length - 1))] rfl (by decide) rfl (fun a ha => by simp [ha.ev (show ev _ (.tmp 75) = some _ from rfl)]) (fun w => by kernel_rfl) hH446 (fun u506 lo508 hi509 w507 hH510 => ?_)
                    refine ops_nil ?_
                    refine ⟨(hH510.sub (List.Sublist.cons _ (List.Sublist.cons _ (List.Sublist.cons_cons _ (List.Sublist.cons_cons _ (List.Sublist.cons_cons _ (List.Sublist.cons _ (List.Sublist.refl _)))))))), ?_⟩
                    refine any_all [2] (by kernel_rfl) rfl ?_
                    refine ⟨⟨_, rfl, ?_⟩, trivial⟩
                    · skip
                      refine op_fn rfl rfl rfl hH510 (c91 (Heap.rdw T.el39_encI hH510 (n := 2) rfl) (by rw [List.length_append]; omega)) (fun u513 w511 lo514 hi515 hH512 hv516 => ?_)
                      have hH517 := Heap.toOw hH512 (n := 0) rfl
                      refine ops_nil ?_
                      refine ⟨(hH517.sub (List.Sublist.cons _ (List.Sublist.cons _ (List.Sublist.cons _ (List.Sublist.cons_cons _ (List.Sublist.cons_cons _ (List.Sublist.cons_cons _ (List.Sublist.cons _ (List.Sublist.refl _))))))))), ?_⟩
                      refine any_all [5] (by kernel_rfl) rfl ?_
                      refine ⟨⟨_, rfl, ?_⟩, trivial⟩
                      · skip
                        refine op_append (n := 0) T.el39_encI rfl rfl rfl hH517 rfl (Heap.rdw T.el39_encI hH517 (n := 2) rfl) (by first | omega | (simp only [List.length_append, List.length_cons, List.length_nil]; omega)) (fun u518 lo520 hi521 w519 hH522 => ?_)
                        refine ops_nil ?_
                        refine ⟨(hH522.sub (List.Sublist.cons _ (List.Sublist.cons _ (List.Sublist.cons _ (List.Sublist.cons_cons _ (List.Sublist.cons_cons _ (List.Sublist.cons_cons _ (List.Sublist.cons _ (List.Sublist.refl _))))))))), ?_⟩
                        refine any_all [9] (by kernel_rfl) rfl ?_
                        refine ⟨⟨_, rfl, ?_⟩, trivial⟩
                        · skip
                          refine op_append (n := 1) T.el39_encI rfl rfl rfl hH522 rfl (Heap.rdw T.el39_encI hH522 (n := 3) rfl) (by first | omega | (simp only [List.length_append, List.length_cons, List.length_nil]; omega)) (fun u523 lo525 hi526 w524 hH527 => ?_)
                          refine ops_nil ?_
                          refine ⟨(hH527.sub (List.Sublist.cons _ (List.Sublist.cons _ (List.Sublist.cons _ (List.Sublist.cons_cons _ (List.Sublist.cons_cons _ (List.Sublist.cons_cons _ (List.Sublist.cons _ (List.Sublist.refl _))))))))), ?_⟩
                          refine any_all [11] (by kernel_rfl) rfl ?_
                          refine ⟨⟨_, rfl, ?_⟩, trivial⟩
                          · skip
                            refine op_fn rfl rfl rfl hH527 (c90 (h0.now hH527 (n := 8) rfl) (Heap.rdw T.el39_encI hH527 (n := 0) rfl) (Heap.rdw T.el39_encI hH527 (n := 1) rfl) (by omega) (by omega)) (fun u530 w528 lo531 hi532 hH529 hv533 => ?_)
                            obtain ⟨f535, hu, -⟩ := hv533
                            subst hu
                            have hH534 := Heap.agg3 hH529 (n := 0) rfl
                            refine ops_nil ?_
                            refine ⟨(hH534.sub (List.Sublist.cons _ (List.Sublist.cons _ (List.Sublist.cons _ (List.Sublist.cons _ (List.Sublist.cons_cons _ (List.Sublist.cons_cons _ (List.Sublist.cons_cons _ (List.Sublist.cons _ (List.Sublist.refl _)))))))))), ?_⟩
                            refine any_all [12] (by kernel_rfl) rfl ?_
                            refine ⟨⟨_, rfl, ?_⟩, trivial⟩
                            · skip
                              refine op_store (n := 7) (j := 0) (us := [u518, u523, f535]) rfl rfl hH534 rfl T.sz41 rfl rfl rfl (all_one (SliceIs.one1 (Heap.rdw T.el39_encI hH534 (n := 1) rfl).is) (all_one (SliceIs.one1 (Heap.rdw T.el39_encI hH534 (n := 2) rfl).is) (all_one (SliceIs.one1 (Heap.rdw T.el39_encI hH534 (n := 0) rfl).is) rfl))) (fun w536 hH537 => ?_)
                              refine ops_nil ?_
                              refine ⟨(hH537.sub (List.Sublist.cons _ (List.Sublist.cons _ (List.Sublist.cons _ (List.Sublist.cons _ (List.Sublist.cons_cons _ (List.Sublist.cons_cons _ (List.Sublist.cons_cons _ (List.Sublist.cons _ (List.Sublist.refl _)))))))))), ?_⟩
                              refine any_done (by kernel_rfl) ?_
                              refine thn_n ?_
                              refine ret ?_
                              refine thn_r ?_
                              have hH538 := (hH537.sub (List.Sublist.cons_cons _ (List.Sublist.cons_cons _ (List.Sublist.cons_cons _ (List.Sublist.cons _ (List.Sublist.cons _ (List.Sublist.cons _ (List.Sublist.cons _ (List.Sublist.cons_cons _ (List.Sublist.cons _ (List.Sublist.refl _)))))))))))
                              refine fin (hH538.front (n := 4) rfl) (fun w' hf => (res1 rfl (rvA (cs := [u518, u523, f535]) rfl T.agg41 rfl (bx_cells (Heap.bxw hf (n := 4) rfl) (k := 0) rfl)))) (fun w' hf => ?_)
                              rw [S.planOrd_t hk2 hus]; exact ⟨_, _, _, rfl, Heap.rdw T.el39_encI hf (n := 1) rfl, Heap.rdw T.el39_encI hf (n := 2) rfl, Heap.rdw T.el39_encI hf (n := 0) rfl⟩
                · skip
                  refine op_lit (us := [(0, (.int .i64 (bestTo (S.longer1 js) (S.shortsTo js k) ((S.shortsTo js k).length - 1))))]) T.el39_encI [(bestTo (S.longer1 js) (S.shortsTo js k) ((S.shortsTo js k).length - 1))] rfl (by decide) rfl (fun a ha => by simp [ha.ev (show ev _ (.tmp 75) = some _ from rfl)]) (fun w => by kernel_rfl) hH346 (fun u539 lo541 hi542 w540 hH543 => ?_)
                  refine ops_nil ?_
                  refine ⟨(hH543.sub (List.Sublist.cons _ (List.Sublist.cons_cons _ (List.Sublist.cons_cons _ (List.Sublist.cons_cons _ (List.Sublist.cons _ (List.Sublist.refl _))))))), ?_⟩
                  refine any_all [2, 4] (by kernel_rfl) rfl ?_
                  refine ⟨⟨_, rfl, ?_⟩, ⟨_, rfl, ?_⟩, trivial⟩
                  · skip
                    refine op_fn rfl rfl rfl hH543 (c91 (Heap.rdw T.el39_encI hH543 (n := 1) rfl) (by rw [List.length_append]; omega)) (fun u546 w544 lo547 hi548 hH545 hv549 => ?_)
                    have hH550 := Heap.toOw hH545 (n := 0) rfl
                    refine ops_nil ?_
                    refine ⟨(hH550.sub (List.Sublist.cons _ (List.Sublist.cons _ (List.Sublist.cons_cons _ (List.Sublist.cons_cons _ (List.Sublist.cons_cons _ (List.Sublist.cons _ (List.Sublist.refl _)))))))), ?_⟩
                    refine any_all [4] (by kernel_rfl) rfl ?_
                    refine ⟨⟨_, rfl, ?_⟩, trivial⟩
                    · skip
                      refine op_lit (us := [(0, (.int .i64 (bestTo (S.longer1 js) (S.shortsTo js k) ((S.shortsTo js k).length - 1))))]) T.el39_encI [(bestTo (S.longer1 js) (S.shortsTo js k) ((S.shortsTo js k).length - 1))] rfl (by decide) rfl (fun a ha => by simp [ha.ev (show ev _ (.tmp 72) = some _ from rfl)]) (fun w => by kernel_rfl) hH550 (fun u551 lo553 hi554 w552 hH555 => ?_)
                      refine ops_nil ?_
                      refine ⟨(hH555.sub (List.Sublist.cons _ (List.Sublist.cons _ (List.Sublist.cons _ (List.Sublist.cons_cons _ (List.Sublist.cons_cons _ (List.Sublist.cons_cons _ (List.Sublist.cons _ (List.Sublist.refl _))))))))), ?_⟩
                      refine any_all [5] (by kernel_rfl) rfl ?_
                      refine ⟨⟨_, rfl, ?_⟩, trivial⟩
                      · skip
                        refine op_append (n := 1) T.el39_encI rfl rfl rfl hH555 rfl (Heap.rdw T.el39_encI hH555 (n := 0) rfl) (by first | omega | (simp only [List.length_append, List.length_cons, List.length_nil]; omega)) (fun u556 lo558 hi559 w557 hH560 => ?_)
                        refine ops_nil ?_
                        refine ⟨(hH560.sub (List.Sublist.cons _ (List.Sublist.cons _ (List.Sublist.cons _ (List.Sublist.cons_cons _ (List.Sublist.cons_cons _ (List.Sublist.cons_cons _ (List.Sublist.cons _ (List.Sublist.refl _))))))))), ?_⟩
                        refine any_all [9] (by kernel_rfl) rfl ?_
                        refine ⟨⟨_, rfl, ?_⟩, trivial⟩
                        · skip
                          refine op_append (n := 2) T.el39_encI rfl rfl rfl hH560 rfl (Heap.rdw T.el39_encI hH560 (n := 3) rfl) (by first | omega | (simp only [List.length_append, List.length_cons, List.length_nil]; omega)) (fun u561 lo563 hi564 w562 hH565 => ?_)
                          refine ops_nil ?_
                          refine ⟨(hH565.sub (List.Sublist.cons _ (List.Sublist.cons _ (List.Sublist.cons _ (List.Sublist.cons_cons _ (List.Sublist.cons_cons _ (List.Sublist.cons_cons _ (List.Sublist.cons _ (List.Sublist.refl _))))))))), ?_⟩
                          refine any_all [11] (by kernel_rfl) rfl ?_
                          refine ⟨⟨_, rfl, ?_⟩, trivial⟩
                          · skip
                            refine op_fn rfl rfl rfl hH565 (c90 (h0.now hH565 (n := 8) rfl) (Heap.rdw T.el39_encI hH565 (n := 1) rfl) (Heap.rdw T.el39_encI hH565 (n := 2) rfl) (by omega) (by omega)) (fun u568 w566 lo569 hi570 hH567 hv571 => ?_)
                            obtain ⟨f573, hu, -⟩ := hv571
                            subst hu
                            have hH572 := Heap.agg3 hH567 (n := 0) rfl
                            refine ops_nil ?_
                            refine ⟨(hH572.sub (List.Sublist.cons _ (List.Sublist.cons _ (List.Sublist.cons _ (List.Sublist.cons _ (List.Sublist.cons_cons _ (List.Sublist.cons_cons _ (List.Sublist.cons_cons _ (List.Sublist.cons _ (List.Sublist.refl _)))))))))), ?_⟩
                            refine any_all [12] (by kernel_rfl) rfl ?_
                            refine ⟨⟨_, rfl, ?_⟩, trivial⟩
                            · skip
                              refine op_store (n := 7) (j := 0) (us := [u556, u561, f573]) rfl rfl hH572 rfl T.sz41 rfl rfl rfl (all_one (SliceIs.one1 (Heap.rdw T.el39_encI hH572 (n := 2) rfl).is) (all_one (SliceIs.one1 (Heap.rdw T.el39_encI hH572 (n := 3) rfl).is) (all_one (SliceIs.one1 (Heap.rdw T.el39_encI hH572 (n := 0) rfl).is) rfl))) (fun w574 hH575 => ?_)
                              refine ops_nil ?_
                              refine ⟨(hH575.sub (List.Sublist.cons _ (List.Sublist.cons _ (List.Sublist.cons _ (List.Sublist.cons _ (List.Sublist.cons_cons _ (List.Sublist.cons_cons _ (List.Sublist.cons_cons _ (List.Sublist.cons _ (List.Sublist.refl _)))))))))), ?_⟩
                              refine any_done (by kernel_rfl) ?_
                              refine thn_n ?_
                              refine ret ?_
                              refine thn_r ?_
                              have hH576 := (hH575.sub (List.Sublist.cons_cons _ (List.Sublist.cons _ (List.Sublist.cons_cons _ (List.Sublist.cons_cons _ (List.Sublist.cons _ (List.Sublist.cons _ (List.Sublist.cons _ (List.Sublist.cons_cons _ (List.Sublist.cons _ (List.Sublist.refl _)))))))))))
                              refine fin (hH576.front (n := 4) rfl) (fun w' hf => (res1 rfl (rvA (cs := [u556, u561, f573]) rfl T.agg41 rfl (bx_cells (Heap.bxw hf (n := 4) rfl) (k := 0) rfl)))) (fun w' hf => ?_)
                              rw [S.planOrd_t hk2 hus]; exact ⟨_, _, _, rfl, Heap.rdw T.el39_encI hf (n := 1) rfl, Heap.rdw T.el39_encI hf (n := 2) rfl, Heap.rdw T.el39_encI hf (n := 0) rfl⟩
                  · skip
                    refine op_lit (us := [(0, (.int .i64 (bestTo (S.longer1 js) (S.shortsTo js k) ((S.shortsTo js k).length - 1))))]) T.el39_encI [(bestTo (S.longer1 js) (S.shortsTo js k) ((S.shortsTo js k).length - 1))] rfl (by decide) rfl (fun a ha => by simp [ha.ev (show ev _ (.tmp 72) = some _ from rfl)]) (fun w => by kernel_rfl) hH543 (fun u577 lo579 hi580 w578 hH581 => ?_)
                    refine ops_nil ?_
                    refine ⟨(hH581.sub (List.Sublist.cons _ (List.Sublist.cons _ (List.Sublist.cons_cons _ (List.Sublist.cons_cons _ (List.Sublist.cons_cons _ (List.Sublist.cons _ (List.Sublist.refl _)))))))), ?_⟩
                    refine any_all [2] (by kernel_rfl) rfl ?_
                    refine ⟨⟨_, rfl, ?_⟩, trivial⟩
                    · skip
                      refine op_fn rfl rfl rfl hH581 (c91 (Heap.rdw T.el39_encI hH581 (n := 2) rfl) (by rw [List.length_append]; omega)) (fun u584 w582 lo585 hi586 hH583 hv587 => ?_)
                      have hH588 := Heap.toOw hH583 (n := 0) rfl
                      refine ops_nil ?_
                      refine ⟨(hH588.sub (List.Sublist.cons _ (List.Sublist.cons _ (List.Sublist.cons _ (List.Sublist.cons_cons _ (List.Sublist.cons_cons _ (List.Sublist.cons_cons _ (List.Sublist.cons _ (List.Sublist.refl _))))))))), ?_⟩
                      refine any_all [5] (by kernel_rfl) rfl ?_
                      refine ⟨⟨_, rfl, ?_⟩, trivial⟩
                      · skip
                        refine op_append (n := 0) T.el39_encI rfl rfl rfl hH588 rfl (Heap.rdw T.el39_encI hH588 (n := 1) rfl) (by first | omega | (simp only [List.length_append, List.length_cons, List.length_nil]; omega)) (fun u589 lo591 hi592 w590 hH593 => ?_)
                        refine ops_nil ?_
                        refine ⟨(hH593.sub (List.Sublist.cons _ (List.Sublist.cons _ (List.Sublist.cons _ (List.Sublist.cons_cons _ (List.Sublist.cons_cons _ (List.Sublist.cons_cons _ (List.Sublist.cons _ (List.Sublist.refl _))))))))), ?_⟩
                        refine any_all [9] (by kernel_rfl) rfl ?_
                        refine ⟨⟨_, rfl, ?_⟩, trivial⟩
                        · skip
                          refine op_append (n := 2) T.el39_encI rfl rfl rfl hH593 rfl (Heap.rdw T.el39_encI hH593 (n := 3) rfl) (by first | omega | (simp only [List.length_append, List.length_cons, List.length_nil]; omega)) (fun u594 lo596 hi597 w595 hH598 => ?_)
                          refine ops_nil ?_
                          refine ⟨(hH598.sub (List.Sublist.cons _ (List.Sublist.cons _ (List.Sublist.cons _ (List.Sublist.cons_cons _ (List.Sublist.cons_cons _ (List.Sublist.cons_cons _ (List.Sublist.cons _ (List.Sublist.refl _))))))))), ?_⟩
                          refine any_all [11] (by kernel_rfl) rfl ?_
                          refine ⟨⟨_, rfl, ?_⟩, trivial⟩
                          · skip
                            refine op_fn rfl rfl rfl hH598 (c90 (h0.now hH598 (n := 8) rfl) (Heap.rdw T.el39_encI hH598 (n := 0) rfl) (Heap.rdw T.el39_encI hH598 (n := 2) rfl) (by omega) (by omega)) (fun u601 w599 lo602 hi603 hH600 hv604 => ?_)
                            obtain ⟨f606, hu, -⟩ := hv604
                            subst hu
                            have hH605 := Heap.agg3 hH600 (n := 0) rfl
                            refine ops_nil ?_
                            refine ⟨(hH605.sub (List.Sublist.cons _ (List.Sublist.cons _ (List.Sublist.cons _ (List.Sublist.cons _ (List.Sublist.cons_cons _ (List.Sublist.cons_cons _ (List.Sublist.cons_cons _ (List.Sublist.cons _ (List.Sublist.refl _)))))))))), ?_⟩
                            refine any_all [12] (by kernel_rfl) rfl ?_
                            refine ⟨⟨_, rfl, ?_⟩, trivial⟩
                            · skip
                              refine op_store (n := 7) (j := 0) (us := [u589, u594, f606]) rfl rfl hH605 rfl T.sz41 rfl rfl rfl (all_one (SliceIs.one1 (Heap.rdw T.el39_encI hH605 (n := 1) rfl).is) (all_one (SliceIs.one1 (Heap.rdw T.el39_encI hH605 (n := 3) rfl).is) (all_one (SliceIs.one1 (Heap.rdw T.el39_encI hH605 (n := 0) rfl).is) rfl))) (fun w607 hH608 => ?_)
                              refine ops_nil ?_
                              refine ⟨(hH608.sub (List.Sublist.cons _ (List.Sublist.cons _ (List.Sublist.cons _ (List.Sublist.cons _ (List.Sublist.cons_cons _ (List.Sublist.cons_cons _ (List.Sublist.cons_cons _ (List.Sublist.cons _ (List.Sublist.refl _)))))))))), ?_⟩
                              refine any_done (by kernel_rfl) ?_
                              refine thn_n ?_
                              refine ret ?_
                              refine thn_r ?_
                              have hH609 := (hH608.sub (List.Sublist.cons_cons _ (List.Sublist.cons_cons _ (List.Sublist.cons _ (List.Sublist.cons_cons _ (List.Sublist.cons _ (List.Sublist.cons _ (List.Sublist.cons _ (List.Sublist.cons_cons _ (List.Sublist.cons _ (List.Sublist.refl _)))))))))))
                              refine fin (hH609.front (n := 4) rfl) (fun w' hf => (res1 rfl (rvA (cs := [u589, u594, f606]) rfl T.agg41 rfl (bx_cells (Heap.bxw hf (n := 4) rfl) (k := 0) rfl)))) (fun w' hf => ?_)
                              rw [S.planOrd_t hk2 hus]; exact ⟨_, _, _, rfl, Heap.rdw T.el39_encI hf (n := 1) rfl, Heap.rdw T.el39_encI hf (n := 2) rfl, Heap.rdw T.el39_encI hf (n := 0) rfl⟩
              · skip
                refine cond_f rfl (decide_eq_false hc329) ?_
                refine skip ?_
                refine thn_n ?_
                refine seq ?_
                have hnu : ¬ S.useShort js k := by unfold S.useShort S.longR S.shortR; omega
                have hsr := S.longR_in (l := js) (k := k) (by omega)
                have hfl := List.length_filter_le (fun y : Int => !decide (y = S.longR js k)) (S.longsTo js k)
                unfold S.longR at hfl hsr
                refine region ?_
                refine ops_y hH328 rfl rfl (yv_move rfl) ?_
                refine ops_y hH328 rfl rfl (yv_move rfl) ?_
                refine op_fnV rfl rfl rfl hH328 (c88_87 (Heap.rdw T.el39_encI hH328 (n := 0) rfl) (Heap.bxw hH328 (n := 3) rfl) (h0.now hH328 (n := 4) rfl) (by omega) (by omega) (fun i hi => by have := S.longs_in i hi; omega)) (fun w610 hH611 => ?_)
                refine ops_y hH611 rfl rfl (yv_assign rfl) ?_
                refine ops_nil ?_
                refine thn_n ?_
                refine seq ?_
                refine region ?_
                refine ops_y hH611 rfl rfl (yv_move rfl) ?_
                refine ops_y hH611 rfl rfl (yv_move rfl) ?_
                refine op_fn rfl rfl rfl hH611 (c89 (Heap.rdw T.el39_encI hH611 (n := 0) rfl) (by omega) (by omega)) (fun u614 w612 lo615 hi616 hH613 hv617 => ?_)
                have hH618 := Heap.toOw hH613 (n := 0) rfl
                refine ops_y hH618 rfl rfl (yv_move rfl) ?_
                refine op_append (n := 0) T.el39_encI rfl rfl rfl hH618 rfl (Heap.rdw T.el39_encI hH618 (n := 2) rfl) (by first | omega | (simp only [List.length_append, List.length_cons, List.length_nil]; omega)) (fun u619 lo621 hi622 w620 hH623 => ?_)
                refine ops_y hH623 rfl rfl (yv_assign rfl) ?_
                refine ops_nil ?_
                refine thn_n ?_
                refine seq ?_
                refine region_draw (fun w' => Heap [ow lo621 hi622 3 1 encI u619 (((S.longsTo js k).filter fun y => !decide (y = (bestTo (S.longer2 js) (S.longsTo js k) ((S.longsTo js k).length - 1)))) ++ (S.shortsTo js k)), ow lo_4 hi_4 3 1 encI v_4 (S.longsTo js k), ow lo_3 hi_3 3 1 encI v_3 (S.shortsTo js k), bx b1 22 [v], base w] w') T.mixed (fun w624 hr625 => ?_)
                have hH626 := hH623.redrawn hr625
                refine any_takes [0, 1, 3, 5, 7, 10] (by kernel_rfl) (hH626.sub (List.Sublist.cons_cons _ (List.Sublist.cons_cons _ (List.Sublist.cons_cons _ (List.Sublist.cons _ (List.Sublist.refl _)))))) _ _ _ (by kernel_rfl) ?_
                refine qs_y rfl rfl (yv_load T.one22 rfl (fun _ hw => Heap.cellw hw (n := 3) rfl rfl)) ?_
                refine qs_y rfl rfl (yv_move rfl) ?_
                refine qs_y rfl rfl (yv_move rfl) ?_
                refine qs_y rfl rfl (yv_move rfl) ?_
                refine qs_y rfl rfl (yv_move rfl) ?_
                refine qs_y rfl rfl (yv_move rfl) ?_
                refine qs_nil ?_
                refine any_all [2, 8] (by kernel_rfl) rfl ?_
                refine ⟨⟨_, rfl, ?_⟩, ⟨_, rfl, ?_⟩, trivial⟩
                · skip
                  refine op_lit (us := [(0, (.int .i64 (bestTo (S.longer2 js) (S.longsTo js k) ((S.longsTo js k).length - 1))))]) T.el39_encI [(bestTo (S.longer2 js) (S.longsTo js k) ((S.longsTo js k).length - 1))] rfl (by decide) rfl (fun a ha => by simp [ha.ev (show ev _ (.tmp 90) = some _ from rfl)]) (fun w => by kernel_rfl) hH626 (fun u627 lo629 hi630 w628 hH631 => ?_)
                  refine ops_nil ?_
                  refine ⟨(hH631.sub (List.Sublist.cons _ (List.Sublist.cons_cons _ (List.Sublist.cons_cons _ (List.Sublist.cons_cons _ (List.Sublist.cons _ (List.Sublist.refl _))))))), ?_⟩
                  refine any_all [4, 8] (by kernel_rfl) rfl ?_
                  refine ⟨⟨_, rfl, ?_⟩, ⟨_, rfl, ?_⟩, trivial⟩
                  · skip
                    refine op_append (n := 0) T.el39_encI rfl rfl rfl hH631 rfl (Heap.rdw T.el39_encI hH631 (n := 1) rfl) (by first | omega | (simp only [List.length_append, List.length_cons, List.length_nil]; omega)) (fun u632 lo634 hi635 w633 hH636 => ?_)
                    refine ops_nil ?_
                    refine ⟨(hH636.sub (List.Sublist.cons _ (List.Sublist.cons_cons _ (List.Sublist.cons_cons _ (List.Sublist.cons_cons _ (List.Sublist.cons _ (List.Sublist.refl _))))))), ?_⟩
                    refine any_all [6, 8] (by kernel_rfl) rfl ?_
                    refine ⟨⟨_, rfl, ?_⟩, ⟨_, rfl, ?_⟩, trivial⟩
                    · skip
                      refine op_fn rfl rfl rfl hH636 (c91 (Heap.rdw T.el39_encI hH636 (n := 1) rfl) (by rw [List.length_append]; omega)) (fun u639 w637 lo640 hi641 hH638 hv642 => ?_)
                      have hH643 := Heap.toOw hH638 (n := 0) rfl
                      refine ops_nil ?_
                      refine ⟨(hH643.sub (List.Sublist.cons _ (List.Sublist.cons _ (List.Sublist.cons_cons _ (List.Sublist.cons_cons _ (List.Sublist.cons_cons _ (List.Sublist.cons _ (List.Sublist.refl _)))))))), ?_⟩
                      refine any_all [8] (by kernel_rfl) rfl ?_
                      refine ⟨⟨_, rfl, ?_⟩, trivial⟩
                      · skip
                        refine op_lit (us := [(0, (.int .i64 (bestTo (S.longer2 js) (S.longsTo js k) ((S.longsTo js k).length - 1))))]) T.el39_encI [(bestTo (S.longer2 js) (S.longsTo js k) ((S.longsTo js k).length - 1))] rfl (by decide) rfl (fun a ha => by simp [ha.ev (show ev _ (.tmp 96) = some _ from rfl)]) (fun w => by kernel_rfl) hH643 (fun u644 lo646 hi647 w645 hH648 => ?_)
                        refine ops_nil ?_
                        refine ⟨(hH648.sub (List.Sublist.cons _ (List.Sublist.cons _ (List.Sublist.cons _ (List.Sublist.cons_cons _ (List.Sublist.cons_cons _ (List.Sublist.cons_cons _ (List.Sublist.cons _ (List.Sublist.refl _))))))))), ?_⟩
                        refine any_all [9] (by kernel_rfl) rfl ?_
                        refine ⟨⟨_, rfl, ?_⟩, trivial⟩
                        · skip
                          refine op_append (n := 1) T.el39_encI rfl rfl rfl hH648 rfl (Heap.rdw T.el39_encI hH648 (n := 0) rfl) (by first | omega | (simp only [List.length_append, List.length_cons, List.length_nil]; omega)) (fun u649 lo651 hi652 w650 hH653 => ?_)
                          refine ops_nil ?_
                          refine ⟨(hH653.sub (List.Sublist.cons _ (List.Sublist.cons _ (List.Sublist.cons _ (List.Sublist.cons_cons _ (List.Sublist.cons_cons _ (List.Sublist.cons_cons _ (List.Sublist.cons _ (List.Sublist.refl _))))))))), ?_⟩
                          refine any_all [11] (by kernel_rfl) rfl ?_
                          refine ⟨⟨_, rfl, ?_⟩, trivial⟩
                          · skip
                            refine op_fn rfl rfl rfl hH653 (c90 (h0.now hH653 (n := 8) rfl) (Heap.rdw T.el39_encI hH653 (n := 2) rfl) (Heap.rdw T.el39_encI hH653 (n := 1) rfl) (by omega) (by omega)) (fun u656 w654 lo657 hi658 hH655 hv659 => ?_)
                            obtain ⟨f661, hu, -⟩ := hv659
                            subst hu
                            have hH660 := Heap.agg3 hH655 (n := 0) rfl
                            refine ops_nil ?_
                            refine ⟨(hH660.sub (List.Sublist.cons _ (List.Sublist.cons _ (List.Sublist.cons _ (List.Sublist.cons _ (List.Sublist.cons_cons _ (List.Sublist.cons_cons _ (List.Sublist.cons_cons _ (List.Sublist.cons _ (List.Sublist.refl _)))))))))), ?_⟩
                            refine any_all [12] (by kernel_rfl) rfl ?_
                            refine ⟨⟨_, rfl, ?_⟩, trivial⟩
                            · skip
                              refine op_store (n := 7) (j := 0) (us := [u632, u649, f661]) rfl rfl hH660 rfl T.sz41 rfl rfl rfl (all_one (SliceIs.one1 (Heap.rdw T.el39_encI hH660 (n := 3) rfl).is) (all_one (SliceIs.one1 (Heap.rdw T.el39_encI hH660 (n := 2) rfl).is) (all_one (SliceIs.one1 (Heap.rdw T.el39_encI hH660 (n := 0) rfl).is) rfl))) (fun w662 hH663 => ?_)
                              refine ops_nil ?_
                              refine ⟨(hH663.sub (List.Sublist.cons _ (List.Sublist.cons _ (List.Sublist.cons _ (List.Sublist.cons _ (List.Sublist.cons_cons _ (List.Sublist.cons_cons _ (List.Sublist.cons_cons _ (List.Sublist.cons _ (List.Sublist.refl _)))))))))), ?_⟩
                              refine any_done (by kernel_rfl) ?_
                              refine thn_n ?_
                              refine ret ?_
                              have hH664 := (hH663.sub (List.Sublist.cons_cons _ (List.Sublist.cons _ (List.Sublist.cons_cons _ (List.Sublist.cons_cons _ (List.Sublist.cons _ (List.Sublist.cons _ (List.Sublist.cons _ (List.Sublist.cons_cons _ (List.Sublist.cons _ (List.Sublist.refl _)))))))))))
                              refine fin (hH664.front (n := 4) rfl) (fun w' hf => (res1 rfl (rvA (cs := [u632, u649, f661]) rfl T.agg41 rfl (bx_cells (Heap.bxw hf (n := 4) rfl) (k := 0) rfl)))) (fun w' hf => ?_)
                              rw [S.planOrd_f hk2 hnu]; exact ⟨_, _, _, rfl, Heap.rdw T.el39_encI hf (n := 2) rfl, Heap.rdw T.el39_encI hf (n := 1) rfl, Heap.rdw T.el39_encI hf (n := 0) rfl⟩
                    · skip
                      refine op_lit (us := [(0, (.int .i64 (bestTo (S.longer2 js) (S.longsTo js k) ((S.longsTo js k).length - 1))))]) T.el39_encI [(bestTo (S.longer2 js) (S.longsTo js k) ((S.longsTo js k).length - 1))] rfl (by decide) rfl (fun a ha => by simp [ha.ev (show ev _ (.tmp 96) = some _ from rfl)]) (fun w => by kernel_rfl) hH636 (fun u665 lo667 hi668 w666 hH669 => ?_)
                      refine ops_nil ?_
                      refine ⟨(hH669.sub (List.Sublist.cons _ (List.Sublist.cons _ (List.Sublist.cons_cons _ (List.Sublist.cons_cons _ (List.Sublist.cons_cons _ (List.Sublist.cons _ (List.Sublist.refl _)))))))), ?_⟩
                      refine any_all [6] (by kernel_rfl) rfl ?_
                      refine ⟨⟨_, rfl, ?_⟩, trivial⟩
                      · skip
                        refine op_fn rfl rfl rfl hH669 (c91 (Heap.rdw T.el39_encI hH669 (n := 2) rfl) (by rw [List.length_append]; omega)) (fun u672 w670 lo673 hi674 hH671 hv675 => ?_)
                        have hH676 := Heap.toOw hH671 (n := 0) rfl
                        refine ops_nil ?_
                        refine ⟨(hH676.sub (List.Sublist.cons _ (List.Sublist.cons _ (List.Sublist.cons _ (List.Sublist.cons_cons _ (List.Sublist.cons_cons _ (List.Sublist.cons_cons _ (List.Sublist.cons _ (List.Sublist.refl _))))))))), ?_⟩
                        refine any_all [9] (by kernel_rfl) rfl ?_
                        refine ⟨⟨_, rfl, ?_⟩, trivial⟩
                        · skip
                          refine op_append (n := 0) T.el39_encI rfl rfl rfl hH676 rfl (Heap.rdw T.el39_encI hH676 (n := 1) rfl) (by first | omega | (simp only [List.length_append, List.length_cons, List.length_nil]; omega)) (fun u677 lo679 hi680 w678 hH681 => ?_)
                          refine ops_nil ?_
                          refine ⟨(hH681.sub (List.Sublist.cons _ (List.Sublist.cons _ (List.Sublist.cons _ (List.Sublist.cons_cons _ (List.Sublist.cons_cons _ (List.Sublist.cons_cons _ (List.Sublist.cons _ (List.Sublist.refl _))))))))), ?_⟩
                          refine any_all [11] (by kernel_rfl) rfl ?_
                          refine ⟨⟨_, rfl, ?_⟩, trivial⟩
                          · skip
                            refine op_fn rfl rfl rfl hH681 (c90 (h0.now hH681 (n := 8) rfl) (Heap.rdw T.el39_encI hH681 (n := 2) rfl) (Heap.rdw T.el39_encI hH681 (n := 0) rfl) (by omega) (by omega)) (fun u684 w682 lo685 hi686 hH683 hv687 => ?_)
                            obtain ⟨f689, hu, -⟩ := hv687
                            subst hu
                            have hH688 := Heap.agg3 hH683 (n := 0) rfl
                            refine ops_nil ?_
                            refine ⟨(hH688.sub (List.Sublist.cons _ (List.Sublist.cons _ (List.Sublist.cons _ (List.Sublist.cons _ (List.Sublist.cons_cons _ (List.Sublist.cons_cons _ (List.Sublist.cons_cons _ (List.Sublist.cons _ (List.Sublist.refl _)))))))))), ?_⟩
                            refine any_all [12] (by kernel_rfl) rfl ?_
                            refine ⟨⟨_, rfl, ?_⟩, trivial⟩
                            · skip
                              refine op_store (n := 7) (j := 0) (us := [u632, u677, f689]) rfl rfl hH688 rfl T.sz41 rfl rfl rfl (all_one (SliceIs.one1 (Heap.rdw T.el39_encI hH688 (n := 3) rfl).is) (all_one (SliceIs.one1 (Heap.rdw T.el39_encI hH688 (n := 1) rfl).is) (all_one (SliceIs.one1 (Heap.rdw T.el39_encI hH688 (n := 0) rfl).is) rfl))) (fun w690 hH691 => ?_)
                              refine ops_nil ?_
                              refine ⟨(hH691.sub (List.Sublist.cons _ (List.Sublist.cons _ (List.Sublist.cons _ (List.Sublist.cons _ (List.Sublist.cons_cons _ (List.Sublist.cons_cons _ (List.Sublist.cons_cons _ (List.Sublist.cons _ (List.Sublist.refl _)))))))))), ?_⟩
                              refine any_done (by kernel_rfl) ?_
                              refine thn_n ?_
                              refine ret ?_
                              have hH692 := (hH691.sub (List.Sublist.cons_cons _ (List.Sublist.cons_cons _ (List.Sublist.cons _ (List.Sublist.cons_cons _ (List.Sublist.cons _ (List.Sublist.cons _ (List.Sublist.cons _ (List.Sublist.cons_cons _ (List.Sublist.cons _ (List.Sublist.refl _)))))))))))
                              refine fin (hH692.front (n := 4) rfl) (fun w' hf => (res1 rfl (rvA (cs := [u632, u677, f689]) rfl T.agg41 rfl (bx_cells (Heap.bxw hf (n := 4) rfl) (k := 0) rfl)))) (fun w' hf => ?_)
                              rw [S.planOrd_f hk2 hnu]; exact ⟨_, _, _, rfl, Heap.rdw T.el39_encI hf (n := 2) rfl, Heap.rdw T.el39_encI hf (n := 1) rfl, Heap.rdw T.el39_encI hf (n := 0) rfl⟩
                  · skip
                    refine op_lit (us := [(0, (.int .i64 (bestTo (S.longer2 js) (S.longsTo js k) ((S.longsTo js k).length - 1))))]) T.el39_encI [(bestTo (S.longer2 js) (S.longsTo js k) ((S.longsTo js k).length - 1))] rfl (by decide) rfl (fun a ha => by simp [ha.ev (show ev _ (.tmp 96) = some _ from rfl)]) (fun w => by kernel_rfl) hH631 (fun u693 lo695 hi696 w694 hH697 => ?_)
                    refine ops_nil ?_
                    refine ⟨(hH697.sub (List.Sublist.cons _ (List.Sublist.cons _ (List.Sublist.cons_cons _ (List.Sublist.cons_cons _ (List.Sublist.cons_cons _ (List.Sublist.cons _ (List.Sublist.refl _)))))))), ?_⟩
                    refine any_all [4] (by kernel_rfl) rfl ?_
                    refine ⟨⟨_, rfl, ?_⟩, trivial⟩
                    · skip
                      refine op_append (n := 1) T.el39_encI rfl rfl rfl hH697 rfl (Heap.rdw T.el39_encI hH697 (n := 2) rfl) (by first | omega | (simp only [List.length_append, List.length_cons, List.length_nil]; omega)) (fun u698 lo700 hi701 w699 hH702 => ?_)
                      refine ops_nil ?_
                      refine ⟨(hH702.sub (List.Sublist.cons _ (List.Sublist.cons _ (List.Sublist.cons_cons _ (List.Sublist.cons_cons _ (List.Sublist.cons_cons _ (List.Sublist.cons _ (List.Sublist.refl _)))))))), ?_⟩
                      refine any_all [6] (by kernel_rfl) rfl ?_
                      refine ⟨⟨_, rfl, ?_⟩, trivial⟩
                      · skip
                        refine op_fn rfl rfl rfl hH702 (c91 (Heap.rdw T.el39_encI hH702 (n := 2) rfl) (by rw [List.length_append]; omega)) (fun u705 w703 lo706 hi707 hH704 hv708 => ?_)
                        have hH709 := Heap.toOw hH704 (n := 0) rfl
                        refine ops_nil ?_
                        refine ⟨(hH709.sub (List.Sublist.cons _ (List.Sublist.cons _ (List.Sublist.cons _ (List.Sublist.cons_cons _ (List.Sublist.cons_cons _ (List.Sublist.cons_cons _ (List.Sublist.cons _ (List.Sublist.refl _))))))))), ?_⟩
                        refine any_all [9] (by kernel_rfl) rfl ?_
                        refine ⟨⟨_, rfl, ?_⟩, trivial⟩
                        · skip
                          refine op_append (n := 0) T.el39_encI rfl rfl rfl hH709 rfl (Heap.rdw T.el39_encI hH709 (n := 1) rfl) (by first | omega | (simp only [List.length_append, List.length_cons, List.length_nil]; omega)) (fun u710 lo712 hi713 w711 hH714 => ?_)
                          refine ops_nil ?_
                          refine ⟨(hH714.sub (List.Sublist.cons _ (List.Sublist.cons _ (List.Sublist.cons _ (List.Sublist.cons_cons _ (List.Sublist.cons_cons _ (List.Sublist.cons_cons _ (List.Sublist.cons _ (List.Sublist.refl _))))))))), ?_⟩
                          refine any_all [11] (by kernel_rfl) rfl ?_
                          refine ⟨⟨_, rfl, ?_⟩, trivial⟩
                          · skip
                            refine op_fn rfl rfl rfl hH714 (c90 (h0.now hH714 (n := 8) rfl) (Heap.rdw T.el39_encI hH714 (n := 2) rfl) (Heap.rdw T.el39_encI hH714 (n := 0) rfl) (by omega) (by omega)) (fun u717 w715 lo718 hi719 hH716 hv720 => ?_)
                            obtain ⟨f722, hu, -⟩ := hv720
                            subst hu
                            have hH721 := Heap.agg3 hH716 (n := 0) rfl
                            refine ops_nil ?_
                            refine ⟨(hH721.sub (List.Sublist.cons _ (List.Sublist.cons _ (List.Sublist.cons _ (List.Sublist.cons _ (List.Sublist.cons_cons _ (List.Sublist.cons_cons _ (List.Sublist.cons_cons _ (List.Sublist.cons _ (List.Sublist.refl _)))))))))), ?_⟩
                            refine any_all [12] (by kernel_rfl) rfl ?_
                            refine ⟨⟨_, rfl, ?_⟩, trivial⟩
                            · skip
                              refine op_store (n := 7) (j := 0) (us := [u698, u710, f722]) rfl rfl hH721 rfl T.sz41 rfl rfl rfl (all_one (SliceIs.one1 (Heap.rdw T.el39_encI hH721 (n := 3) rfl).is) (all_one (SliceIs.one1 (Heap.rdw T.el39_encI hH721 (n := 1) rfl).is) (all_one (SliceIs.one1 (Heap.rdw T.el39_encI hH721 (n := 0) rfl).is) rfl))) (fun w723 hH724 => ?_)
                              refine ops_nil ?_
                              refine ⟨(hH724.sub (List.Sublist.cons _ (List.Sublist.cons _ (List.Sublist.cons _ (List.Sublist.cons _ (List.Sublist.cons_cons _ (List.Sublist.cons_cons _ (List.Sublist.cons_cons _ (List.Sublist.cons _ (List.Sublist.refl _)))))))))), ?_⟩
                              refine any_done (by kernel_rfl) ?_
                              refine thn_n ?_
                              refine ret ?_
                              have hH725 := (hH724.sub (List.Sublist.cons_cons _ (List.Sublist.cons_cons _ (List.Sublist.cons _ (List.Sublist.cons_cons _ (List.Sublist.cons _ (List.Sublist.cons _ (List.Sublist.cons _ (List.Sublist.cons_cons _ (List.Sublist.cons _ (List.Sublist.refl _)))))))))))
                              refine fin (hH725.front (n := 4) rfl) (fun w' hf => (res1 rfl (rvA (cs := [u698, u710, f722]) rfl T.agg41 rfl (bx_cells (Heap.bxw hf (n := 4) rfl) (k := 0) rfl)))) (fun w' hf => ?_)
                              rw [S.planOrd_f hk2 hnu]; exact ⟨_, _, _, rfl, Heap.rdw T.el39_encI hf (n := 2) rfl, Heap.rdw T.el39_encI hf (n := 1) rfl, Heap.rdw T.el39_encI hf (n := 0) rfl⟩
                · skip
                  refine op_lit (us := [(0, (.int .i64 (bestTo (S.longer2 js) (S.longsTo js k) ((S.longsTo js k).length - 1))))]) T.el39_encI [(bestTo (S.longer2 js) (S.longsTo js k) ((S.longsTo js k).length - 1))] rfl (by decide) rfl (fun a ha => by simp [ha.ev (show ev _ (.tmp 96) = some _ from rfl)]) (fun w => by kernel_rfl) hH626 (fun u726 lo728 hi729 w727 hH730 => ?_)
                  refine ops_nil ?_
                  refine ⟨(hH730.sub (List.Sublist.cons _ (List.Sublist.cons_cons _ (List.Sublist.cons_cons _ (List.Sublist.cons_cons _ (List.Sublist.cons _ (List.Sublist.refl _))))))), ?_⟩
                  refine any_all [2] (by kernel_rfl) rfl ?_
                  refine ⟨⟨_, rfl, ?_⟩, trivial⟩
                  · skip
                    refine op_lit (us := [(0, (.int .i64 (bestTo (S.longer2 js) (S.longsTo js k) ((S.longsTo js k).length - 1))))]) T.el39_encI [(bestTo (S.longer2 js) (S.longsTo js k) ((S.longsTo js k).length - 1))] rfl (by decide) rfl (fun a ha => by simp [ha.ev (show ev _ (.tmp 90) = some _ from rfl)]) (fun w => by kernel_rfl) hH730 (fun u731 lo733 hi734 w732 hH735 => ?_)
                    refine ops_nil ?_
                    refine ⟨(hH735.sub (List.Sublist.cons _ (List.Sublist.cons _ (List.Sublist.cons_cons _ (List.Sublist.cons_cons _ (List.Sublist.cons_cons _ (List.Sublist.cons _ (List.Sublist.refl _)))))))), ?_⟩
                    refine any_all [4] (by kernel_rfl) rfl ?_
                    refine ⟨⟨_, rfl, ?_⟩, trivial⟩
                    · skip
                      refine op_append (n := 0) T.el39_encI rfl rfl rfl hH735 rfl (Heap.rdw T.el39_encI hH735 (n := 2) rfl) (by first | omega | (simp only [List.length_append, List.length_cons, List.length_nil]; omega)) (fun u736 lo738 hi739 w737 hH740 => ?_)
                      refine ops_nil ?_
                      refine ⟨(hH740.sub (List.Sublist.cons _ (List.Sublist.cons _ (List.Sublist.cons_cons _ (List.Sublist.cons_cons _ (List.Sublist.cons_cons _ (List.Sublist.cons _ (List.Sublist.refl _)))))))), ?_⟩
                      refine any_all [6] (by kernel_rfl) rfl ?_
                      refine ⟨⟨_, rfl, ?_⟩, trivial⟩
                      · skip
                        refine op_fn rfl rfl rfl hH740 (c91 (Heap.rdw T.el39_encI hH740 (n := 2) rfl) (by rw [List.length_append]; omega)) (fun u743 w741 lo744 hi745 hH742 hv746 => ?_)
                        have hH747 := Heap.toOw hH742 (n := 0) rfl
                        refine ops_nil ?_
                        refine ⟨(hH747.sub (List.Sublist.cons _ (List.Sublist.cons _ (List.Sublist.cons _ (List.Sublist.cons_cons _ (List.Sublist.cons_cons _ (List.Sublist.cons_cons _ (List.Sublist.cons _ (List.Sublist.refl _))))))))), ?_⟩
                        refine any_all [9] (by kernel_rfl) rfl ?_
                        refine ⟨⟨_, rfl, ?_⟩, trivial⟩
                        · skip
                          refine op_append (n := 0) T.el39_encI rfl rfl rfl hH747 rfl (Heap.rdw T.el39_encI hH747 (n := 2) rfl) (by first | omega | (simp only [List.length_append, List.length_cons, List.length_nil]; omega)) (fun u748 lo750 hi751 w749 hH752 => ?_)
                          refine ops_nil ?_
                          refine ⟨(hH752.sub (List.Sublist.cons _ (List.Sublist.cons _ (List.Sublist.cons _ (List.Sublist.cons_cons _ (List.Sublist.cons_cons _ (List.Sublist.cons_cons _ (List.Sublist.cons _ (List.Sublist.refl _))))))))), ?_⟩
                          refine any_all [11] (by kernel_rfl) rfl ?_
                          refine ⟨⟨_, rfl, ?_⟩, trivial⟩
                          · skip
                            refine op_fn rfl rfl rfl hH752 (c90 (h0.now hH752 (n := 8) rfl) (Heap.rdw T.el39_encI hH752 (n := 1) rfl) (Heap.rdw T.el39_encI hH752 (n := 0) rfl) (by omega) (by omega)) (fun u755 w753 lo756 hi757 hH754 hv758 => ?_)
                            obtain ⟨f760, hu, -⟩ := hv758
                            subst hu
                            have hH759 := Heap.agg3 hH754 (n := 0) rfl
                            refine ops_nil ?_
                            refine ⟨(hH759.sub (List.Sublist.cons _ (List.Sublist.cons _ (List.Sublist.cons _ (List.Sublist.cons _ (List.Sublist.cons_cons _ (List.Sublist.cons_cons _ (List.Sublist.cons_cons _ (List.Sublist.cons _ (List.Sublist.refl _)))))))))), ?_⟩
                            refine any_all [12] (by kernel_rfl) rfl ?_
                            refine ⟨⟨_, rfl, ?_⟩, trivial⟩
                            · skip
                              refine op_store (n := 7) (j := 0) (us := [u736, u748, f760]) rfl rfl hH759 rfl T.sz41 rfl rfl rfl (all_one (SliceIs.one1 (Heap.rdw T.el39_encI hH759 (n := 2) rfl).is) (all_one (SliceIs.one1 (Heap.rdw T.el39_encI hH759 (n := 1) rfl).is) (all_one (SliceIs.one1 (Heap.rdw T.el39_encI hH759 (n := 0) rfl).is) rfl))) (fun w761 hH762 => ?_)
                              refine ops_nil ?_
                              refine ⟨(hH762.sub (List.Sublist.cons _ (List.Sublist.cons _ (List.Sublist.cons _ (List.Sublist.cons _ (List.Sublist.cons_cons _ (List.Sublist.cons_cons _ (List.Sublist.cons_cons _ (List.Sublist.cons _ (List.Sublist.refl _)))))))))), ?_⟩
                              refine any_done (by kernel_rfl) ?_
                              refine thn_n ?_
                              refine ret ?_
                              have hH763 := (hH762.sub (List.Sublist.cons_cons _ (List.Sublist.cons_cons _ (List.Sublist.cons_cons _ (List.Sublist.cons _ (List.Sublist.cons _ (List.Sublist.cons _ (List.Sublist.cons _ (List.Sublist.cons_cons _ (List.Sublist.cons _ (List.Sublist.refl _)))))))))))
                              refine fin (hH763.front (n := 4) rfl) (fun w' hf => (res1 rfl (rvA (cs := [u736, u748, f760]) rfl T.agg41 rfl (bx_cells (Heap.bxw hf (n := 4) rfl) (k := 0) rfl)))) (fun w' hf => ?_)
                              rw [S.planOrd_f hk2 hnu]; exact ⟨_, _, _, rfl, Heap.rdw T.el39_encI hf (n := 2) rfl, Heap.rdw T.el39_encI hf (n := 1) rfl, Heap.rdw T.el39_encI hf (n := 0) rfl⟩
        · skip
          refine any_takes [8, 9, 10, 11, 12, 13, 14, 15, 16, 17, 18, 19, 20, 21, 22, 23, 24] (by kernel_rfl) hH42 _ _ _ (by kernel_rfl) ?_
          refine qs_no rfl rfl rfl (decide_eq_false hc324) rfl ?_
          refine qs_no rfl rfl rfl (decide_eq_false hc324) rfl ?_
          refine qs_no rfl rfl rfl (decide_eq_false hc324) rfl ?_
          refine qs_no rfl rfl rfl (decide_eq_false hc324) rfl ?_
          refine qs_no rfl rfl rfl (decide_eq_false hc324) rfl ?_
          refine qs_no rfl rfl rfl (decide_eq_false hc324) rfl ?_
          refine qs_no rfl rfl rfl (decide_eq_false hc324) rfl ?_
          refine qs_no rfl rfl rfl (decide_eq_false hc324) rfl ?_
          refine qs_no rfl rfl rfl (decide_eq_false hc324) rfl ?_
          refine qs_no rfl rfl rfl (decide_eq_false hc324) rfl ?_
          refine qs_no rfl rfl rfl (decide_eq_false hc324) rfl ?_
          refine qs_no rfl rfl rfl (decide_eq_false hc324) rfl ?_
          refine qs_no rfl rfl rfl (decide_eq_false hc324) rfl ?_
          refine qs_no rfl rfl rfl (decide_eq_false hc324) rfl ?_
          refine qs_no rfl rfl rfl (decide_eq_false hc324) rfl ?_
          refine qs_yes rfl rfl rfl (decide_eq_false hc43) rfl (yv_pick_f rfl (decide_eq_false hc324) rfl) ?_
          refine qs_y rfl rfl (yv_pick_f rfl (decide_eq_false hc43) rfl) ?_
          refine qs_nil ?_
          refine any_done (by kernel_rfl) ?_
          refine thn_n ?_
          refine cond_f rfl rfl ?_
          refine skip ?_
          refine thn_n ?_
          refine seq ?_
          have hnu : ¬ S.useShort js k := by unfold S.useShort S.longR S.shortR; omega
          have hsr := S.longR_in (l := js) (k := k) (by omega)
          have hfl := List.length_filter_le (fun y : Int => !decide (y = S.longR js k)) (S.longsTo js k)
          unfold S.longR at hfl hsr
          refine region ?_
          refine ops_y hH42 rfl rfl (yv_move rfl) ?_
          refine ops_y hH42 rfl rfl (yv_move rfl) ?_
          refine op_fnV rfl rfl rfl hH42 (c88_87 (Heap.rdw T.el39_encI hH42 (n := 0) rfl) (Heap.bxw hH42 (n := 3) rfl) (h0.now hH42 (n := 4) rfl) (by omega) (by omega) (fun i hi => by have := S.longs_in i hi; omega)) (fun w764 hH765 => ?_)
          refine ops_y hH765 rfl rfl (yv_assign rfl) ?_
          refine ops_nil ?_
          refine thn_n ?_
          refine seq ?_
          refine region ?_
          refine ops_y hH765 rfl rfl (yv_move rfl) ?_
          refine ops_y hH765 rfl rfl (yv_move rfl) ?_
          refine op_fn rfl rfl rfl hH765 (c89 (Heap.rdw T.el39_encI hH765 (n := 0) rfl) (by omega) (by omega)) (fun u768 w766 lo769 hi770 hH767 hv771 => ?_)
          have hH772 := Heap.toOw hH767 (n := 0) rfl
          refine ops_y hH772 rfl rfl (yv_move rfl) ?_
          refine op_append (n := 0) T.el39_encI rfl rfl rfl hH772 rfl (Heap.rdw T.el39_encI hH772 (n := 2) rfl) (by first | omega | (simp only [List.length_append, List.length_cons, List.length_nil]; omega)) (fun u773 lo775 hi776 w774 hH777 => ?_)
          refine ops_y hH777 rfl rfl (yv_assign rfl) ?_
          refine ops_nil ?_
          refine thn_n ?_
          refine seq ?_
          refine region_draw (fun w' => Heap [ow lo775 hi776 3 1 encI u773 (((S.longsTo js k).filter fun y => !decide (y = (bestTo (S.longer2 js) (S.longsTo js k) ((S.longsTo js k).length - 1)))) ++ (S.shortsTo js k)), ow lo_4 hi_4 3 1 encI v_4 (S.longsTo js k), ow lo_3 hi_3 3 1 encI v_3 (S.shortsTo js k), bx b1 22 [v], base w] w') T.mixed (fun w778 hr779 => ?_)
          have hH780 := hH777.redrawn hr779
          refine any_takes [0, 1, 3, 5, 7, 10] (by kernel_rfl) (hH780.sub (List.Sublist.cons_cons _ (List.Sublist.cons_cons _ (List.Sublist.cons_cons _ (List.Sublist.cons _ (List.Sublist.refl _)))))) _ _ _ (by kernel_rfl) ?_
          refine qs_y rfl rfl (yv_load T.one22 rfl (fun _ hw => Heap.cellw hw (n := 3) rfl rfl)) ?_
          refine qs_y rfl rfl (yv_move rfl) ?_
          refine qs_y rfl rfl (yv_move rfl) ?_
          refine qs_y rfl rfl (yv_move rfl) ?_
          refine qs_y rfl rfl (yv_move rfl) ?_
          refine qs_y rfl rfl (yv_move rfl) ?_
          refine qs_nil ?_
          refine any_all [2, 8] (by kernel_rfl) rfl ?_
          refine ⟨⟨_, rfl, ?_⟩, ⟨_, rfl, ?_⟩, trivial⟩
          · skip
            refine op_lit (us := [(0, (.int .i64 (bestTo (S.longer2 js) (S.longsTo js k) ((S.longsTo js k).length - 1))))]) T.el39_encI [(bestTo (S.longer2 js) (S.longsTo js k) ((S.longsTo js k).length - 1))] rfl (by decide) rfl (fun a ha => by simp [ha.ev (show ev _ (.tmp 90) = some _ from rfl)]) (fun w => by kernel_rfl) hH780 (fun u781 lo783 hi784 w782 hH785 => ?_)
            refine ops_nil ?_
            refine ⟨(hH785.sub (List.Sublist.cons _ (List.Sublist.cons_cons _ (List.Sublist.cons_cons _ (List.Sublist.cons_cons _ (List.Sublist.cons _ (List.Sublist.refl _))))))), ?_⟩
            refine any_all [4, 8] (by kernel_rfl) rfl ?_
            refine ⟨⟨_, rfl, ?_⟩, ⟨_, rfl, ?_⟩, trivial⟩
            · skip
              refine op_append (n := 0) T.el39_encI rfl rfl rfl hH785 rfl (Heap.rdw T.el39_encI hH785 (n := 1) rfl) (by first | omega | (simp only [List.length_append, List.length_cons, List.length_nil]; omega)) (fun u786 lo788 hi789 w787 hH790 => ?_)
              refine ops_nil ?_
              refine ⟨(hH790.sub (List.Sublist.cons _ (List.Sublist.cons_cons _ (List.Sublist.cons_cons _ (List.Sublist.cons_cons _ (List.Sublist.cons _ (List.Sublist.refl _))))))), ?_⟩
              refine any_all [6, 8] (by kernel_rfl) rfl ?_
              refine ⟨⟨_, rfl, ?_⟩, ⟨_, rfl, ?_⟩, trivial⟩
              · skip
                refine op_fn rfl rfl rfl hH790 (c91 (Heap.rdw T.el39_encI hH790 (n := 1) rfl) (by rw [List.length_append]; omega)) (fun u793 w791 lo794 hi795 hH792 hv796 => ?_)
                have hH797 := Heap.toOw hH792 (n := 0) rfl
                refine ops_nil ?_
                refine ⟨(hH797.sub (List.Sublist.cons _ (List.Sublist.cons _ (List.Sublist.cons_cons _ (List.Sublist.cons_cons _ (List.Sublist.cons_cons _ (List.Sublist.cons _ (List.Sublist.refl _)))))))), ?_⟩
                refine any_all [8] (by kernel_rfl) rfl ?_
                refine ⟨⟨_, rfl, ?_⟩, trivial⟩
                · skip
                  refine op_lit (us := [(0, (.int .i64 (bestTo (S.longer2 js) (S.longsTo js k) ((S.longsTo js k).length - 1))))]) T.el39_encI [(bestTo (S.longer2 js) (S.longsTo js k) ((S.longsTo js k).length - 1))] rfl (by decide) rfl (fun a ha => by simp [ha.ev (show ev _ (.tmp 96) = some _ from rfl)]) (fun w => by kernel_rfl) hH797 (fun u798 lo800 hi801 w799 hH802 => ?_)
                  refine ops_nil ?_
                  refine ⟨(hH802.sub (List.Sublist.cons _ (List.Sublist.cons _ (List.Sublist.cons _ (List.Sublist.cons_cons _ (List.Sublist.cons_cons _ (List.Sublist.cons_cons _ (List.Sublist.cons _ (List.Sublist.refl _))))))))), ?_⟩
                  refine any_all [9] (by kernel_rfl) rfl ?_
                  refine ⟨⟨_, rfl, ?_⟩, trivial⟩
                  · skip
                    refine op_append (n := 1) T.el39_encI rfl rfl rfl hH802 rfl (Heap.rdw T.el39_encI hH802 (n := 0) rfl) (by first | omega | (simp only [List.length_append, List.length_cons, List.length_nil]; omega)) (fun u803 lo805 hi806 w804 hH807 => ?_)
                    refine ops_nil ?_
                    refine ⟨(hH807.sub (List.Sublist.cons _ (List.Sublist.cons _ (List.Sublist.cons _ (List.Sublist.cons_cons _ (List.Sublist.cons_cons _ (List.Sublist.cons_cons _ (List.Sublist.cons _ (List.Sublist.refl _))))))))), ?_⟩
                    refine any_all [11] (by kernel_rfl) rfl ?_
                    refine ⟨⟨_, rfl, ?_⟩, trivial⟩
                    · skip
                      refine op_fn rfl rfl rfl hH807 (c90 (h0.now hH807 (n := 8) rfl) (Heap.rdw T.el39_encI hH807 (n := 2) rfl) (Heap.rdw T.el39_encI hH807 (n := 1) rfl) (by omega) (by omega)) (fun u810 w808 lo811 hi812 hH809 hv813 => ?_)
                      obtain ⟨f815, hu, -⟩ := hv813
                      subst hu
                      have hH814 := Heap.agg3 hH809 (n := 0) rfl
                      refine ops_nil ?_
                      refine ⟨(hH814.sub (List.Sublist.cons _ (List.Sublist.cons _ (List.Sublist.cons _ (List.Sublist.cons _ (List.Sublist.cons_cons _ (List.Sublist.cons_cons _ (List.Sublist.cons_cons _ (List.Sublist.cons _ (List.Sublist.refl _)))))))))), ?_⟩
                      refine any_all [12] (by kernel_rfl) rfl ?_
                      refine ⟨⟨_, rfl, ?_⟩, trivial⟩
                      · skip
                        refine op_store (n := 7) (j := 0) (us := [u786, u803, f815]) rfl rfl hH814 rfl T.sz41 rfl rfl rfl (all_one (SliceIs.one1 (Heap.rdw T.el39_encI hH814 (n := 3) rfl).is) (all_one (SliceIs.one1 (Heap.rdw T.el39_encI hH814 (n := 2) rfl).is) (all_one (SliceIs.one1 (Heap.rdw T.el39_encI hH814 (n := 0) rfl).is) rfl))) (fun w816 hH817 => ?_)
                        refine ops_nil ?_
                        refine ⟨(hH817.sub (List.Sublist.cons _ (List.Sublist.cons _ (List.Sublist.cons _ (List.Sublist.cons _ (List.Sublist.cons_cons _ (List.Sublist.cons_cons _ (List.Sublist.cons_cons _ (List.Sublist.cons _ (List.Sublist.refl _)))))))))), ?_⟩
                        refine any_done (by kernel_rfl) ?_
                        refine thn_n ?_
                        refine ret ?_
                        have hH818 := (hH817.sub (List.Sublist.cons_cons _ (List.Sublist.cons _ (List.Sublist.cons_cons _ (List.Sublist.cons_cons _ (List.Sublist.cons _ (List.Sublist.cons _ (List.Sublist.cons _ (List.Sublist.cons_cons _ (List.Sublist.cons _ (List.Sublist.refl _)))))))))))
                        refine fin (hH818.front (n := 4) rfl) (fun w' hf => (res1 rfl (rvA (cs := [u786, u803, f815]) rfl T.agg41 rfl (bx_cells (Heap.bxw hf (n := 4) rfl) (k := 0) rfl)))) (fun w' hf => ?_)
                        rw [S.planOrd_f hk2 hnu]; exact ⟨_, _, _, rfl, Heap.rdw T.el39_encI hf (n := 2) rfl, Heap.rdw T.el39_encI hf (n := 1) rfl, Heap.rdw T.el39_encI hf (n := 0) rfl⟩
              · skip
                refine op_lit (us := [(0, (.int .i64 (bestTo (S.longer2 js) (S.longsTo js k) ((S.longsTo js k).length - 1))))]) T.el39_encI [(bestTo (S.longer2 js) (S.longsTo js k) ((S.longsTo js k).length - 1))] rfl (by decide) rfl (fun a ha => by simp [ha.ev (show ev _ (.tmp 96) = some _ from rfl)]) (fun w => by kernel_rfl) hH790 (fun u819 lo821 hi822 w820 hH823 => ?_)
                refine ops_nil ?_
                refine ⟨(hH823.sub (List.Sublist.cons _ (List.Sublist.cons _ (List.Sublist.cons_cons _ (List.Sublist.cons_cons _ (List.Sublist.cons_cons _ (List.Sublist.cons _ (List.Sublist.refl _)))))))), ?_⟩
                refine any_all [6] (by kernel_rfl) rfl ?_
                refine ⟨⟨_, rfl, ?_⟩, trivial⟩
                · skip
                  refine op_fn rfl rfl rfl hH823 (c91 (Heap.rdw T.el39_encI hH823 (n := 2) rfl) (by rw [List.length_append]; omega)) (fun u826 w824 lo827 hi828 hH825 hv829 => ?_)
                  have hH830 := Heap.toOw hH825 (n := 0) rfl
                  refine ops_nil ?_
                  refine ⟨(hH830.sub (List.Sublist.cons _ (List.Sublist.cons _ (List.Sublist.cons _ (List.Sublist.cons_cons _ (List.Sublist.cons_cons _ (List.Sublist.cons_cons _ (List.Sublist.cons _ (List.Sublist.refl _))))))))), ?_⟩
                  refine any_all [9] (by kernel_rfl) rfl ?_
                  refine ⟨⟨_, rfl, ?_⟩, trivial⟩
                  · skip
                    refine op_append (n := 0) T.el39_encI rfl rfl rfl hH830 rfl (Heap.rdw T.el39_encI hH830 (n := 1) rfl) (by first | omega | (simp only [List.length_append, List.length_cons, List.length_nil]; omega)) (fun u831 lo833 hi834 w832 hH835 => ?_)
                    refine ops_nil ?_
                    refine ⟨(hH835.sub (List.Sublist.cons _ (List.Sublist.cons _ (List.Sublist.cons _ (List.Sublist.cons_cons _ (List.Sublist.cons_cons _ (List.Sublist.cons_cons _ (List.Sublist.cons _ (List.Sublist.refl _))))))))), ?_⟩
                    refine any_all [11] (by kernel_rfl) rfl ?_
                    refine ⟨⟨_, rfl, ?_⟩, trivial⟩
                    · skip
                      refine op_fn rfl rfl rfl hH835 (c90 (h0.now hH835 (n := 8) rfl) (Heap.rdw T.el39_encI hH835 (n := 2) rfl) (Heap.rdw T.el39_encI hH835 (n := 0) rfl) (by omega) (by omega)) (fun u838 w836 lo839 hi840 hH837 hv841 => ?_)
                      obtain ⟨f843, hu, -⟩ := hv841
                      subst hu
                      have hH842 := Heap.agg3 hH837 (n := 0) rfl
                      refine ops_nil ?_
                      refine ⟨(hH842.sub (List.Sublist.cons _ (List.Sublist.cons _ (List.Sublist.cons _ (List.Sublist.cons _ (List.Sublist.cons_cons _ (List.Sublist.cons_cons _ (List.Sublist.cons_cons _ (List.Sublist.cons _ (List.Sublist.refl _)))))))))), ?_⟩
                      refine any_all [12] (by kernel_rfl) rfl ?_
                      refine ⟨⟨_, rfl, ?_⟩, trivial⟩
                      · skip
                        refine op_store (n := 7) (j := 0) (us := [u786, u831, f843]) rfl rfl hH842 rfl T.sz41 rfl rfl rfl (all_one (SliceIs.one1 (Heap.rdw T.el39_encI hH842 (n := 3) rfl).is) (all_one (SliceIs.one1 (Heap.rdw T.el39_encI hH842 (n := 1) rfl).is) (all_one (SliceIs.one1 (Heap.rdw T.el39_encI hH842 (n := 0) rfl).is) rfl))) (fun w844 hH845 => ?_)
                        refine ops_nil ?_
                        refine ⟨(hH845.sub (List.Sublist.cons _ (List.Sublist.cons _ (List.Sublist.cons _ (List.Sublist.cons _ (List.Sublist.cons_cons _ (List.Sublist.cons_cons _ (List.Sublist.cons_cons _ (List.Sublist.cons _ (List.Sublist.refl _)))))))))), ?_⟩
                        refine any_done (by kernel_rfl) ?_
                        refine thn_n ?_
                        refine ret ?_
                        have hH846 := (hH845.sub (List.Sublist.cons_cons _ (List.Sublist.cons_cons _ (List.Sublist.cons _ (List.Sublist.cons_cons _ (List.Sublist.cons _ (List.Sublist.cons _ (List.Sublist.cons _ (List.Sublist.cons_cons _ (List.Sublist.cons _ (List.Sublist.refl _)))))))))))
                        refine fin (hH846.front (n := 4) rfl) (fun w' hf => (res1 rfl (rvA (cs := [u786, u831, f843]) rfl T.agg41 rfl (bx_cells (Heap.bxw hf (n := 4) rfl) (k := 0) rfl)))) (fun w' hf => ?_)
                        rw [S.planOrd_f hk2 hnu]; exact ⟨_, _, _, rfl, Heap.rdw T.el39_encI hf (n := 2) rfl, Heap.rdw T.el39_encI hf (n := 1) rfl, Heap.rdw T.el39_encI hf (n := 0) rfl⟩
            · skip
              refine op_lit (us := [(0, (.int .i64 (bestTo (S.longer2 js) (S.longsTo js k) ((S.longsTo js k).length - 1))))]) T.el39_encI [(bestTo (S.longer2 js) (S.longsTo js k) ((S.longsTo js k).length - 1))] rfl (by decide) rfl (fun a ha => by simp [ha.ev (show ev _ (.tmp 96) = some _ from rfl)]) (fun w => by kernel_rfl) hH785 (fun u847 lo849 hi850 w848 hH851 => ?_)
              refine ops_nil ?_
              refine ⟨(hH851.sub (List.Sublist.cons _ (List.Sublist.cons _ (List.Sublist.cons_cons _ (List.Sublist.cons_cons _ (List.Sublist.cons_cons _ (List.Sublist.cons _ (List.Sublist.refl _)))))))), ?_⟩
              refine any_all [4] (by kernel_rfl) rfl ?_
              refine ⟨⟨_, rfl, ?_⟩, trivial⟩
              · skip
                refine op_append (n := 1) T.el39_encI rfl rfl rfl hH851 rfl (Heap.rdw T.el39_encI hH851 (n := 2) rfl) (by first | omega | (simp only [List.length_append, List.length_cons, List.length_nil]; omega)) (fun u852 lo854 hi855 w853 hH856 => ?_)
                refine ops_nil ?_
                refine ⟨(hH856.sub (List.Sublist.cons _ (List.Sublist.cons _ (List.Sublist.cons_cons _ (List.Sublist.cons_cons _ (List.Sublist.cons_cons _ (List.Sublist.cons _ (List.Sublist.refl _)))))))), ?_⟩
                refine any_all [6] (by kernel_rfl) rfl ?_
                refine ⟨⟨_, rfl, ?_⟩, trivial⟩
                · skip
                  refine op_fn rfl rfl rfl hH856 (c91 (Heap.rdw T.el39_encI hH856 (n := 2) rfl) (by rw [List.length_append]; omega)) (fun u859 w857 lo860 hi861 hH858 hv862 => ?_)
                  have hH863 := Heap.toOw hH858 (n := 0) rfl
                  refine ops_nil ?_
                  refine ⟨(hH863.sub (List.Sublist.cons _ (List.Sublist.cons _ (List.Sublist.cons _ (List.Sublist.cons_cons _ (List.Sublist.cons_cons _ (List.Sublist.cons_cons _ (List.Sublist.cons _ (List.Sublist.refl _))))))))), ?_⟩
                  refine any_all [9] (by kernel_rfl) rfl ?_
                  refine ⟨⟨_, rfl, ?_⟩, trivial⟩
                  · skip
                    refine op_append (n := 0) T.el39_encI rfl rfl rfl hH863 rfl (Heap.rdw T.el39_encI hH863 (n := 1) rfl) (by first | omega | (simp only [List.length_append, List.length_cons, List.length_nil]; omega)) (fun u864 lo866 hi867 w865 hH868 => ?_)
                    refine ops_nil ?_
                    refine ⟨(hH868.sub (List.Sublist.cons _ (List.Sublist.cons _ (List.Sublist.cons _ (List.Sublist.cons_cons _ (List.Sublist.cons_cons _ (List.Sublist.cons_cons _ (List.Sublist.cons _ (List.Sublist.refl _))))))))), ?_⟩
                    refine any_all [11] (by kernel_rfl) rfl ?_
                    refine ⟨⟨_, rfl, ?_⟩, trivial⟩
                    · skip
                      refine op_fn rfl rfl rfl hH868 (c90 (h0.now hH868 (n := 8) rfl) (Heap.rdw T.el39_encI hH868 (n := 2) rfl) (Heap.rdw T.el39_encI hH868 (n := 0) rfl) (by omega) (by omega)) (fun u871 w869 lo872 hi873 hH870 hv874 => ?_)
                      obtain ⟨f876, hu, -⟩ := hv874
                      subst hu
                      have hH875 := Heap.agg3 hH870 (n := 0) rfl
                      refine ops_nil ?_
                      refine ⟨(hH875.sub (List.Sublist.cons _ (List.Sublist.cons _ (List.Sublist.cons _ (List.Sublist.cons _ (List.Sublist.cons_cons _ (List.Sublist.cons_cons _ (List.Sublist.cons_cons _ (List.Sublist.cons _ (List.Sublist.refl _)))))))))), ?_⟩
                      refine any_all [12] (by kernel_rfl) rfl ?_
                      refine ⟨⟨_, rfl, ?_⟩, trivial⟩
                      · skip
                        refine op_store (n := 7) (j := 0) (us := [u852, u864, f876]) rfl rfl hH875 rfl T.sz41 rfl rfl rfl (all_one (SliceIs.one1 (Heap.rdw T.el39_encI hH875 (n := 3) rfl).is) (all_one (SliceIs.one1 (Heap.rdw T.el39_encI hH875 (n := 1) rfl).is) (all_one (SliceIs.one1 (Heap.rdw T.el39_encI hH875 (n := 0) rfl).is) rfl))) (fun w877 hH878 => ?_)
                        refine ops_nil ?_
                        refine ⟨(hH878.sub (List.Sublist.cons _ (List.Sublist.cons _ (List.Sublist.cons _ (List.Sublist.cons _ (List.Sublist.cons_cons _ (List.Sublist.cons_cons _ (List.Sublist.cons_cons _ (List.Sublist.cons _ (List.Sublist.refl _)))))))))), ?_⟩
                        refine any_done (by kernel_rfl) ?_
                        refine thn_n ?_
                        refine ret ?_
                        have hH879 := (hH878.sub (List.Sublist.cons_cons _ (List.Sublist.cons_cons _ (List.Sublist.cons _ (List.Sublist.cons_cons _ (List.Sublist.cons _ (List.Sublist.cons _ (List.Sublist.cons _ (List.Sublist.cons_cons _ (List.Sublist.cons _ (List.Sublist.refl _)))))))))))
                        refine fin (hH879.front (n := 4) rfl) (fun w' hf => (res1 rfl (rvA (cs := [u852, u864, f876]) rfl T.agg41 rfl (bx_cells (Heap.bxw hf (n := 4) rfl) (k := 0) rfl)))) (fun w' hf => ?_)
                        rw [S.planOrd_f hk2 hnu]; exact ⟨_, _, _, rfl, Heap.rdw T.el39_encI hf (n := 2) rfl, Heap.rdw T.el39_encI hf (n := 1) rfl, Heap.rdw T.el39_encI hf (n := 0) rfl⟩
          · skip
            refine op_lit (us := [(0, (.int .i64 (bestTo (S.longer2 js) (S.longsTo js k) ((S.longsTo js k).length - 1))))]) T.el39_encI [(bestTo (S.longer2 js) (S.longsTo js k) ((S.longsTo js k).length - 1))] rfl (by decide) rfl (fun a ha => by simp [ha.ev (show ev _ (.tmp 96) = some _ from rfl)]) (fun w => by kernel_rfl) hH780 (fun u880 lo882 hi883 w881 hH884 => ?_)
            refine ops_nil ?_
            refine ⟨(hH884.sub (List.Sublist.cons _ (List.Sublist.cons_cons _ (List.Sublist.cons_cons _ (List.Sublist.cons_cons _ (List.Sublist.cons _ (List.Sublist.refl _))))))), ?_⟩
            refine any_all [2] (by kernel_rfl) rfl ?_
            refine ⟨⟨_, rfl, ?_⟩, trivial⟩
            · skip
              refine op_lit (us := [(0, (.int .i64 (bestTo (S.longer2 js) (S.longsTo js k) ((S.longsTo js k).length - 1))))]) T.el39_encI [(bestTo (S.longer2 js) (S.longsTo js k) ((S.longsTo js k).length - 1))] rfl (by decide) rfl (fun a ha => by simp [ha.ev (show ev _ (.tmp 90) = some _ from rfl)]) (fun w => by kernel_rfl) hH884 (fun u885 lo887 hi888 w886 hH889 => ?_)
              refine ops_nil ?_
              refine ⟨(hH889.sub (List.Sublist.cons _ (List.Sublist.cons _ (List.Sublist.cons_cons _ (List.Sublist.cons_cons _ (List.Sublist.cons_cons _ (List.Sublist.cons _ (List.Sublist.refl _)))))))), ?_⟩
              refine any_all [4] (by kernel_rfl) rfl ?_
              refine ⟨⟨_, rfl, ?_⟩, trivial⟩
              · skip
                refine op_append (n := 0) T.el39_encI rfl rfl rfl hH889 rfl (Heap.rdw T.el39_encI hH889 (n := 2) rfl) (by first | omega | (simp only [List.length_append, List.length_cons, List.length_nil]; omega)) (fun u890 lo892 hi893 w891 hH894 => ?_)
                refine ops_nil ?_
                refine ⟨(hH894.sub (List.Sublist.cons _ (List.Sublist.cons _ (List.Sublist.cons_cons _ (List.Sublist.cons_cons _ (List.Sublist.cons_cons _ (List.Sublist.cons _ (List.Sublist.refl _)))))))), ?_⟩
                refine any_all [6] (by kernel_rfl) rfl ?_
                refine ⟨⟨_, rfl, ?_⟩, trivial⟩
                · skip
                  refine op_fn rfl rfl rfl hH894 (c91 (Heap.rdw T.el39_encI hH894 (n := 2) rfl) (by rw [List.length_append]; omega)) (fun u897 w895 lo898 hi899 hH896 hv900 => ?_)
                  have hH901 := Heap.toOw hH896 (n := 0) rfl
                  refine ops_nil ?_
                  refine ⟨(hH901.sub (List.Sublist.cons _ (List.Sublist.cons _ (List.Sublist.cons _ (List.Sublist.cons_cons _ (List.Sublist.cons_cons _ (List.Sublist.cons_cons _ (List.Sublist.cons _ (List.Sublist.refl _))))))))), ?_⟩
                  refine any_all [9] (by kernel_rfl) rfl ?_
                  refine ⟨⟨_, rfl, ?_⟩, trivial⟩
                  · skip
                    refine op_append (n := 0) T.el39_encI rfl rfl rfl hH901 rfl (Heap.rdw T.el39_encI hH901 (n := 2) rfl) (by first | omega | (simp only [List.length_append, List.length_cons, List.length_nil]; omega)) (fun u902 lo904 hi905 w903 hH906 => ?_)
                    refine ops_nil ?_
                    refine ⟨(hH906.sub (List.Sublist.cons _ (List.Sublist.cons _ (List.Sublist.cons _ (List.Sublist.cons_cons _ (List.Sublist.cons_cons _ (List.Sublist.cons_cons _ (List.Sublist.cons _ (List.Sublist.refl _))))))))), ?_⟩
                    refine any_all [11] (by kernel_rfl) rfl ?_
                    refine ⟨⟨_, rfl, ?_⟩, trivial⟩
                    · skip
                      refine op_fn rfl rfl rfl hH906 (c90 (h0.now hH906 (n := 8) rfl) (Heap.rdw T.el39_encI hH906 (n := 1) rfl) (Heap.rdw T.el39_encI hH906 (n := 0) rfl) (by omega) (by omega)) (fun u909 w907 lo910 hi911 hH908 hv912 => ?_)
                      obtain ⟨f914, hu, -⟩ := hv912
                      subst hu
                      have hH913 := Heap.agg3 hH908 (n := 0) rfl
                      refine ops_nil ?_
                      refine ⟨(hH913.sub (List.Sublist.cons _ (List.Sublist.cons _ (List.Sublist.cons _ (List.Sublist.cons _ (List.Sublist.cons_cons _ (List.Sublist.cons_cons _ (List.Sublist.cons_cons _ (List.Sublist.cons _ (List.Sublist.refl _)))))))))), ?_⟩
                      refine any_all [12] (by kernel_rfl) rfl ?_
                      refine ⟨⟨_, rfl, ?_⟩, trivial⟩
                      · skip
                        refine op_store (n := 7) (j := 0) (us := [u890, u902, f914]) rfl rfl hH913 rfl T.sz41 rfl rfl rfl (all_one (SliceIs.one1 (Heap.rdw T.el39_encI hH913 (n := 2) rfl).is) (all_one (SliceIs.one1 (Heap.rdw T.el39_encI hH913 (n := 1) rfl).is) (all_one (SliceIs.one1 (Heap.rdw T.el39_encI hH913 (n := 0) rfl).is) rfl))) (fun w915 hH916 => ?_)
                        refine ops_nil ?_
                        refine ⟨(hH916.sub (List.Sublist.cons _ (List.Sublist.cons _ (List.Sublist.cons _ (List.Sublist.cons _ (List.Sublist.cons_cons _ (List.Sublist.cons_cons _ (List.Sublist.cons_cons _ (List.Sublist.cons _ (List.Sublist.refl _)))))))))), ?_⟩
                        refine any_done (by kernel_rfl) ?_
                        refine thn_n ?_
                        refine ret ?_
                        have hH917 := (hH916.sub (List.Sublist.cons_cons _ (List.Sublist.cons_cons _ (List.Sublist.cons_cons _ (List.Sublist.cons _ (List.Sublist.cons _ (List.Sublist.cons _ (List.Sublist.cons _ (List.Sublist.cons_cons _ (List.Sublist.cons _ (List.Sublist.refl _)))))))))))
                        refine fin (hH917.front (n := 4) rfl) (fun w' hf => (res1 rfl (rvA (cs := [u890, u902, f914]) rfl T.agg41 rfl (bx_cells (Heap.bxw hf (n := 4) rfl) (k := 0) rfl)))) (fun w' hf => ?_)
                        rw [S.planOrd_f hk2 hnu]; exact ⟨_, _, _, rfl, Heap.rdw T.el39_encI hf (n := 2) rfl, Heap.rdw T.el39_encI hf (n := 1) rfl, Heap.rdw T.el39_encI hf (n := 0) rfl⟩

end Go.Fip
