/- Walks, by program (wip/tools). -/
import Derived.Test.YtlekkopaeiblfaaWf
import Derived.Test.YtlekkopaeiblfaaSz
set_option linter.unusedVariables false
set_option linter.unusedSimpArgs false
set_option linter.unusedSectionVars false
set_option linter.unnecessarySimpa false
namespace Go.Fip
open Go.Proofs Go.RowKit

abbrev kvW (n : Int) : Value := .agg #[.int .i64 n]
abbrev vvI (n : Int) : Value := .int .i64 n
/-- Block d is a day: an order, and the map of when works end. -/
def Day (d : Nat) (vb vt vf : Value) (m : Nat) (E : List (Int × Int)) (w : World) : Prop := Bx d 103 [vb, vt, vf, .map (some m)] w ∧ Mp kvW vvI m E w
theorem Day.now {d m : Nat} {vb vt vf : Value} {E : List (Int × Int)} {w w' : World} (h : Day d vb vt vf m E w) {H : List Item} {n : Nat} (hH : Heap H w') (hn : H[n]? = some (base w)) : Day d vb vt vf m E w' := ⟨h.1.now hH hn, h.2.now hH hn⟩
/-- What an iterator over works has captured. -/
abbrev Cap (b5 b3 b2 d : Nat) (rv : Value) (x : Int) (w : World) : Prop := Bx b5 39 [rv] w ∧ Bx b3 3 [.int .i64 x] w ∧ Bx b2 98 [.pointer (some ⟨d, 0, none⟩)] w
abbrev DW (b5 b3 b2 d m : Nat) (rv vb vt vf : Value) (x : Int) (L F : List Int) (w : World) : Prop := Cap b5 b3 b2 d rv x w ∧ Bx d 103 [vb, vt, vf, .map (some m)] w ∧ Rd encI 1 rv L w ∧ Rd encI 1 vf F w

theorem it98 {b5 b3 b2 d m : Nat} {rv vb vt vf : Value} {x : Int} {L F : List Int} (hx : 0 ≤ x) (hx2 : x < 2 * (F.length : Int)) (hl : L.length ≤ 1000000) (hf : F.length ≤ 500000) (hL : ∀ i, 0 ≤ i → i < (L.length : Int) → 0 ≤ nth L i ∧ nth L i ≤ 1000000) :
    Iter Try.prog 98 [(.pointer (some ⟨b5, 0, none⟩)), (.pointer (some ⟨b3, 0, none⟩)), (.pointer (some ⟨b2, 0, none⟩))] (DW b5 b3 b2 d m rv vb vt vf x L F) (((S.preL L F x).map (Value.int .i64))) := by
  refine iter_of (N := 42) Try.func98 rfl (ent Try.func98 (by kernel_rfl) rfl) rfl rfl rfl (fun l J Jx hJ hJx hD hY w hH => ?_)
  have hpl := S.place_lt L (x / 2)
  refine seq ?_
  refine region ?_
  refine ops_y hH rfl rfl (yv_load T.one39 rfl (fun _ hw => bx_cell ((hD _ _ (hw.get (n := 0) rfl)).1.1) rfl)) ?_
  refine ops_y hH rfl rfl (yv_load T.one3 rfl (fun _ hw => bx_cell ((hD _ _ (hw.get (n := 0) rfl)).1.2.1) rfl)) ?_
  refine ops_y hH rfl rfl (yv_quo rfl rfl (by omega) (by omega) (by omega)) ?_
  refine op_fnV rfl rfl rfl hH (c93 ((hD _ _ (hH.get (n := 0) rfl)).2.2.1) (by omega)) (fun w1 hH2 => ?_)
  refine ops_y hH2 rfl rfl (yv_assign rfl) ?_
  refine ops_nil ?_
  refine thn_n ?_
  refine seq ?_
  refine seq ?_
  refine region_draw (fun w' => True) T.mixed (fun w3 hr4 => ?_)
  have hH5 := hH2.redrawn hr4
  refine any_takes [0, 1, 2] (by kernel_rfl) trivial _ _ _ (by kernel_rfl) ?_
  refine qs_y rfl rfl (yv_move rfl) ?_
  refine qs_y rfl rfl (yv_gtr rfl rfl) ?_
  refine qs_y rfl rfl (yv_move rfl) ?_
  refine qs_nil ?_
  by_cases hc6 : 0 < (S.place L (x / 2))
  · skip
    have hk1 : 0 < S.place L (x / 2) := ‹_›
    have hLk := hL (S.place L (x / 2) - 1) (by omega) (by omega)
    refine any_takes [3, 5, 6] (by kernel_rfl) trivial _ _ _ (by kernel_rfl) ?_
    refine qs_yes rfl rfl rfl (decide_eq_true hc6) rfl (yv_move rfl) ?_
    refine qs_yes rfl rfl rfl (decide_eq_true hc6) rfl (yv_move rfl) ?_
    refine qs_yes rfl rfl rfl (decide_eq_true hc6) rfl (yv_sub rfl rfl (by omega)) ?_
    refine qs_nil ?_
    refine any_all [4, 10] (by kernel_rfl) rfl ?_
    refine ⟨⟨_, rfl, ?_⟩, ⟨_, rfl, ?_⟩, trivial⟩
    · skip
      refine guard_yes rfl rfl (decide_eq_true hc6) ?_
      refine ops_y hH5 rfl rfl (yv_load T.one39 rfl (fun _ hw => bx_cell ((hD _ _ (hw.get (n := 0) rfl)).1.1) rfl)) ?_
      refine ops_nil ?_
      refine ⟨trivial, ?_⟩
      refine any_takes [7] (by kernel_rfl) trivial _ _ _ (by kernel_rfl) ?_
      refine qs_yes rfl rfl rfl (decide_eq_true hc6) rfl (yv_index T.sl39 rfl rfl ((hD _ _ (hH5.get (n := 0) rfl)).2.2.1).is (by omega)) ?_
      refine qs_nil ?_
      refine any_all [8, 10] (by kernel_rfl) rfl ?_
      refine ⟨⟨_, rfl, ?_⟩, ⟨_, rfl, ?_⟩, trivial⟩
      · skip
        refine guard_yes rfl rfl (decide_eq_true hc6) ?_
        refine ops_y hH5 rfl rfl (yv_load T.one3 rfl (fun _ hw => Rd.at ((hD _ _ (hw.get (n := 0) rfl)).2.2.1) (i := (S.place L (x / 2)) - 1) (by omega) (j := 0) rfl)) ?_
        refine ops_nil ?_
        refine ⟨trivial, ?_⟩
        refine any_takes [9] (by kernel_rfl) trivial _ _ _ (by kernel_rfl) ?_
        refine qs_yes rfl rfl rfl (decide_eq_true hc6) rfl (yv_mul rfl rfl (by omega)) ?_
        refine qs_nil ?_
        refine any_all [10] (by kernel_rfl) rfl ?_
        refine ⟨⟨_, rfl, ?_⟩, trivial⟩
        · skip
          refine guard_yes rfl rfl (decide_eq_true hc6) ?_
          refine ops_y hH5 rfl rfl (yv_load T.one3 rfl (fun _ hw => bx_cell ((hD _ _ (hw.get (n := 0) rfl)).1.2.1) rfl)) ?_
          refine ops_nil ?_
          refine ⟨trivial, ?_⟩
          refine any_takes [11, 12] (by kernel_rfl) trivial _ _ _ (by kernel_rfl) ?_
          refine qs_yes rfl rfl rfl (decide_eq_true hc6) rfl (yv_rem rfl rfl (by omega) (by omega)) ?_
          refine qs_yes rfl rfl rfl (decide_eq_true hc6) rfl (yv_add rfl rfl (by omega)) ?_
          refine qs_nil ?_
          refine any_all [13] (by kernel_rfl) rfl ?_
          refine ⟨⟨_, rfl, ?_⟩, trivial⟩
          · skip
            refine guard_yes rfl rfl (decide_eq_true hc6) ?_
            refine op_yield rfl rfl rfl (hY 0 _ (by unfold S.preL; rw [if_pos hk1]; rfl) _ (hH5.get (n := 0) rfl)) (fun w7 hA8 => ?_) (fun w7 hA8 => ?_)
            · skip
              have hH9 := jItem_heap (J := J (0 + 1)) (hJ (0 + 1)) hA8
              refine ops_nil ?_
              refine ⟨trivial, ?_⟩
              refine any_takes [14, 15] (by kernel_rfl) trivial _ _ _ (by kernel_rfl) ?_
              refine qs_yes rfl rfl rfl (decide_eq_true hc6) rfl (yv_not rfl) ?_
              refine qs_y rfl rfl (yv_pick_t rfl (decide_eq_true hc6) rfl) ?_
              refine qs_nil ?_
              refine any_done (by kernel_rfl) ?_
              refine thn_n ?_
              refine cond_f rfl rfl ?_
              refine skip ?_
              refine thn_n ?_
              refine seq ?_
              refine region_draw (fun w' => Heap [jItem w7 (J (0 + 1))] w') T.mixed (fun w10 hr11 => ?_)
              have hH12 := hH9.redrawn hr11
              refine any_takes [0, 1, 2, 3, 4, 5, 6, 7, 8, 9, 10, 11] (by kernel_rfl) hH12 _ _ _ (by kernel_rfl) ?_
              refine qs_y rfl rfl (yv_load T.one98 rfl (fun _ hw => bx_cell ((hD _ _ (hw.get (n := 0) rfl)).1.2.2) rfl)) ?_
              refine qs_y rfl rfl (yv_nilck rfl) ?_
              refine qs_y rfl rfl (yv_field T.f103_0 rfl) ?_
              refine qs_y rfl rfl (yv_field T.f41_2 rfl) ?_
              refine qs_y rfl rfl (yv_load T.one39 rfl (fun _ hw => bx_cell ((hD _ _ (hw.get (n := 0) rfl)).2.1) rfl)) ?_
              refine qs_y rfl rfl (yv_load T.one3 rfl (fun _ hw => bx_cell ((hD _ _ (hw.get (n := 0) rfl)).1.2.1) rfl)) ?_
              refine qs_y rfl rfl (yv_quo rfl rfl (by omega) (by omega) (by omega)) ?_
              refine qs_y rfl rfl (yv_index T.sl39 rfl rfl ((hD _ _ (hH12.get (n := 0) rfl)).2.2.2).is (by omega)) ?_
              refine qs_y rfl rfl (yv_load T.one3 rfl (fun _ hw => Rd.at ((hD _ _ (hw.get (n := 0) rfl)).2.2.2) (i := x / 2) (by omega) (j := 0) rfl)) ?_
              refine qs_y rfl rfl (yv_load T.one3 rfl (fun _ hw => bx_cell ((hD _ _ (hw.get (n := 0) rfl)).1.2.1) rfl)) ?_
              refine qs_y rfl rfl (yv_rem rfl rfl (by omega) (by omega)) ?_
              refine qs_y rfl rfl (yv_neq rfl rfl) ?_
              refine qs_nil ?_
              refine any_done (by kernel_rfl) ?_
              refine thn_n ?_
              by_cases hc13 : (nth F (x / 2)) = (x % 2)
              · skip
                have hn2 : ¬ ¬ nth F (x / 2) = x % 2 := fun h => h ‹_›
                refine cond_f rfl (not_decide_n hc13) ?_
                refine skip ?_
                have hpre : ((S.preL L F x).map (Value.int .i64)).length = 1 := by unfold S.preL; rw [if_pos hk1, if_neg hn2]; rfl
                exact ⟨rfl, .inl (by rw [hpre]; exact hH12.get (n := 0) rfl)⟩
              · skip
                have hk2 : ¬ nth F (x / 2) = x % 2 := ‹_›
                refine cond_t rfl (not_decide_t hc13) ?_
                refine region ?_
                refine ops_y hH12 rfl rfl (yv_move rfl) ?_
                refine ops_y hH12 rfl rfl (yv_load T.one3 rfl (fun _ hw => bx_cell ((hD _ _ (hw.get (n := 0) rfl)).1.2.1) rfl)) ?_
                refine ops_y hH12 rfl rfl (yv_xor1 rfl rfl (by omega) (by omega)) ?_
                refine op_yield rfl rfl rfl (hY 1 _ (by unfold S.preL; rw [if_pos hk1, if_pos hk2]; rfl) _ (hH12.get (n := 0) rfl)) (fun w14 hA15 => ?_) (fun w14 hA15 => ?_)
                · skip
                  have hH16 := jItem_heap (J := J (1 + 1)) (hJ (1 + 1)) hA15
                  refine ops_nil ?_
                  have hpre : ((S.preL L F x).map (Value.int .i64)).length = 2 := by unfold S.preL; rw [if_pos hk1, if_pos hk2]; rfl
                  exact ⟨rfl, .inl (by rw [hpre]; exact hH16.get (n := 0) rfl)⟩
                · skip
                  have hH16 := jItem_heap (J := Jx) hJx hA15
                  refine ops_nil ?_
                  exact ⟨rfl, .inr (hH16.get (n := 0) rfl)⟩
            · skip
              have hH9 := jItem_heap (J := Jx) hJx hA8
              refine ops_nil ?_
              refine ⟨trivial, ?_⟩
              refine any_takes [14, 15] (by kernel_rfl) trivial _ _ _ (by kernel_rfl) ?_
              refine qs_yes rfl rfl rfl (decide_eq_true hc6) rfl (yv_not rfl) ?_
              refine qs_y rfl rfl (yv_pick_t rfl (decide_eq_true hc6) rfl) ?_
              refine qs_nil ?_
              refine any_done (by kernel_rfl) ?_
              refine thn_n ?_
              refine cond_t rfl rfl ?_
              refine ret ?_
              refine thn_r ?_
              exact ⟨rfl, .inr (hH9.get (n := 0) rfl)⟩
      · skip
        refine guard_yes rfl rfl (decide_eq_true hc6) ?_
        refine ops_y hH5 rfl rfl (yv_load T.one3 rfl (fun _ hw => bx_cell ((hD _ _ (hw.get (n := 0) rfl)).1.2.1) rfl)) ?_
        refine ops_nil ?_
        refine ⟨trivial, ?_⟩
        refine any_takes [11] (by kernel_rfl) trivial _ _ _ (by kernel_rfl) ?_
        refine qs_yes rfl rfl rfl (decide_eq_true hc6) rfl (yv_rem rfl rfl (by omega) (by omega)) ?_
        refine qs_nil ?_
        refine any_all [8] (by kernel_rfl) rfl ?_
        refine ⟨⟨_, rfl, ?_⟩, trivial⟩
        · skip
          refine guard_yes rfl rfl (decide_eq_true hc6) ?_
          refine ops_y hH5 rfl rfl (yv_load T.one3 rfl (fun _ hw => Rd.at ((hD _ _ (hw.get (n := 0) rfl)).2.2.1) (i := (S.place L (x / 2)) - 1) (by omega) (j := 0) rfl)) ?_
          refine ops_nil ?_
          refine ⟨trivial, ?_⟩
          refine any_takes [9, 12] (by kernel_rfl) trivial _ _ _ (by kernel_rfl) ?_
          refine qs_yes rfl rfl rfl (decide_eq_true hc6) rfl (yv_mul rfl rfl (by omega)) ?_
          refine qs_yes rfl rfl rfl (decide_eq_true hc6) rfl (yv_add rfl rfl (by omega)) ?_
          refine qs_nil ?_
          refine any_all [13] (by kernel_rfl) rfl ?_
          refine ⟨⟨_, rfl, ?_⟩, trivial⟩
          · skip
            refine guard_yes rfl rfl (decide_eq_true hc6) ?_
            refine op_yield rfl rfl rfl (hY 0 _ (by unfold S.preL; rw [if_pos hk1]; rfl) _ (hH5.get (n := 0) rfl)) (fun w17 hA18 => ?_) (fun w17 hA18 => ?_)
            · skip
              have hH19 := jItem_heap (J := J (0 + 1)) (hJ (0 + 1)) hA18
              refine ops_nil ?_
              refine ⟨trivial, ?_⟩
              refine any_takes [14, 15] (by kernel_rfl) trivial _ _ _ (by kernel_rfl) ?_
              refine qs_yes rfl rfl rfl (decide_eq_true hc6) rfl (yv_not rfl) ?_
              refine qs_y rfl rfl (yv_pick_t rfl (decide_eq_true hc6) rfl) ?_
              refine qs_nil ?_
              refine any_done (by kernel_rfl) ?_
              refine thn_n ?_
              refine cond_f rfl rfl ?_
              refine skip ?_
              refine thn_n ?_
              refine seq ?_
              refine region_draw (fun w' => Heap [jItem w17 (J (0 + 1))] w') T.mixed (fun w20 hr21 => ?_)
              have hH22 := hH19.redrawn hr21
              refine any_takes [0, 1, 2, 3, 4, 5, 6, 7, 8, 9, 10, 11] (by kernel_rfl) hH22 _ _ _ (by kernel_rfl) ?_
              refine qs_y rfl rfl (yv_load T.one98 rfl (fun _ hw => bx_cell ((hD _ _ (hw.get (n := 0) rfl)).1.2.2) rfl)) ?_
              refine qs_y rfl rfl (yv_nilck rfl) ?_
              refine qs_y rfl rfl (yv_field T.f103_0 rfl) ?_
              refine qs_y rfl rfl (yv_field T.f41_2 rfl) ?_
              refine qs_y rfl rfl (yv_load T.one39 rfl (fun _ hw => bx_cell ((hD _ _ (hw.get (n := 0) rfl)).2.1) rfl)) ?_
              refine qs_y rfl rfl (yv_load T.one3 rfl (fun _ hw => bx_cell ((hD _ _ (hw.get (n := 0) rfl)).1.2.1) rfl)) ?_
              refine qs_y rfl rfl (yv_quo rfl rfl (by omega) (by omega) (by omega)) ?_
              refine qs_y rfl rfl (yv_index T.sl39 rfl rfl ((hD _ _ (hH22.get (n := 0) rfl)).2.2.2).is (by omega)) ?_
              refine qs_y rfl rfl (yv_load T.one3 rfl (fun _ hw => Rd.at ((hD _ _ (hw.get (n := 0) rfl)).2.2.2) (i := x / 2) (by omega) (j := 0) rfl)) ?_
              refine qs_y rfl rfl (yv_load T.one3 rfl (fun _ hw => bx_cell ((hD _ _ (hw.get (n := 0) rfl)).1.2.1) rfl)) ?_
              refine qs_y rfl rfl (yv_rem rfl rfl (by omega) (by omega)) ?_
              refine qs_y rfl rfl (yv_neq rfl rfl) ?_
              refine qs_nil ?_
              refine any_done (by kernel_rfl) ?_
              refine thn_n ?_
              by_cases hc23 : (nth F (x / 2)) = (x % 2)
              · skip
                have hn2 : ¬ ¬ nth F (x / 2) = x % 2 := fun h => h ‹_›
                refine cond_f rfl (not_decide_n hc23) ?_
                refine skip ?_
                have hpre : ((S.preL L F x).map (Value.int .i64)).length = 1 := by unfold S.preL; rw [if_pos hk1, if_neg hn2]; rfl
                exact ⟨rfl, .inl (by rw [hpre]; exact hH22.get (n := 0) rfl)⟩
              · skip
                have hk2 : ¬ nth F (x / 2) = x % 2 := ‹_›
                refine cond_t rfl (not_decide_t hc23) ?_
                refine region ?_
                refine ops_y hH22 rfl rfl (yv_move rfl) ?_
                refine ops_y hH22 rfl rfl (yv_load T.one3 rfl (fun _ hw => bx_cell ((hD _ _ (hw.get (n := 0) rfl)).1.2.1) rfl)) ?_
                refine ops_y hH22 rfl rfl (yv_xor1 rfl rfl (by omega) (by omega)) ?_
                refine op_yield rfl rfl rfl (hY 1 _ (by unfold S.preL; rw [if_pos hk1, if_pos hk2]; rfl) _ (hH22.get (n := 0) rfl)) (fun w24 hA25 => ?_) (fun w24 hA25 => ?_)
                · skip
                  have hH26 := jItem_heap (J := J (1 + 1)) (hJ (1 + 1)) hA25
                  refine ops_nil ?_
                  have hpre : ((S.preL L F x).map (Value.int .i64)).length = 2 := by unfold S.preL; rw [if_pos hk1, if_pos hk2]; rfl
                  exact ⟨rfl, .inl (by rw [hpre]; exact hH26.get (n := 0) rfl)⟩
                · skip
                  have hH26 := jItem_heap (J := Jx) hJx hA25
                  refine ops_nil ?_
                  exact ⟨rfl, .inr (hH26.get (n := 0) rfl)⟩
            · skip
              have hH19 := jItem_heap (J := Jx) hJx hA18
              refine ops_nil ?_
              refine ⟨trivial, ?_⟩
              refine any_takes [14, 15] (by kernel_rfl) trivial _ _ _ (by kernel_rfl) ?_
              refine qs_yes rfl rfl rfl (decide_eq_true hc6) rfl (yv_not rfl) ?_
              refine qs_y rfl rfl (yv_pick_t rfl (decide_eq_true hc6) rfl) ?_
              refine qs_nil ?_
              refine any_done (by kernel_rfl) ?_
              refine thn_n ?_
              refine cond_t rfl rfl ?_
              refine ret ?_
              refine thn_r ?_
              exact ⟨rfl, .inr (hH19.get (n := 0) rfl)⟩
    · skip
      refine guard_yes rfl rfl (decide_eq_true hc6) ?_
      refine ops_y hH5 rfl rfl (yv_load T.one3 rfl (fun _ hw => bx_cell ((hD _ _ (hw.get (n := 0) rfl)).1.2.1) rfl)) ?_
      refine ops_nil ?_
      refine ⟨trivial, ?_⟩
      refine any_takes [11] (by kernel_rfl) trivial _ _ _ (by kernel_rfl) ?_
      refine qs_yes rfl rfl rfl (decide_eq_true hc6) rfl (yv_rem rfl rfl (by omega) (by omega)) ?_
      refine qs_nil ?_
      refine any_all [4] (by kernel_rfl) rfl ?_
      refine ⟨⟨_, rfl, ?_⟩, trivial⟩
      · skip
        refine guard_yes rfl rfl (decide_eq_true hc6) ?_
        refine ops_y hH5 rfl rfl (yv_load T.one39 rfl (fun _ hw => bx_cell ((hD _ _ (hw.get (n := 0) rfl)).1.1) rfl)) ?_
        refine ops_nil ?_
        refine ⟨trivial, ?_⟩
        refine any_takes [7] (by kernel_rfl) trivial _ _ _ (by kernel_rfl) ?_
        refine qs_yes rfl rfl rfl (decide_eq_true hc6) rfl (yv_index T.sl39 rfl rfl ((hD _ _ (hH5.get (n := 0) rfl)).2.2.1).is (by omega)) ?_
        refine qs_nil ?_
        refine any_all [8] (by kernel_rfl) rfl ?_
        refine ⟨⟨_, rfl, ?_⟩, trivial⟩
        · skip
          refine guard_yes rfl rfl (decide_eq_true hc6) ?_
          refine ops_y hH5 rfl rfl (yv_load T.one3 rfl (fun _ hw => Rd.at ((hD _ _ (hw.get (n := 0) rfl)).2.2.1) (i := (S.place L (x / 2)) - 1) (by omega) (j := 0) rfl)) ?_
          refine ops_nil ?_
          refine ⟨trivial, ?_⟩
          refine any_takes [9, 12] (by kernel_rfl) trivial _ _ _ (by kernel_rfl) ?_
          refine qs_yes rfl rfl rfl (decide_eq_true hc6) rfl (yv_mul rfl rfl (by omega)) ?_
          refine qs_yes rfl rfl rfl (decide_eq_true hc6) rfl (yv_add rfl rfl (by omega)) ?_
          refine qs_nil ?_
          refine any_all [13] (by kernel_rfl) rfl ?_
          refine ⟨⟨_, rfl, ?_⟩, trivial⟩
          · skip
            refine guard_yes rfl rfl (decide_eq_true hc6) ?_
            refine op_yield rfl rfl rfl (hY 0 _ (by unfold S.preL; rw [if_pos hk1]; rfl) _ (hH5.get (n := 0) rfl)) (fun w27 hA28 => ?_) (fun w27 hA28 => ?_)
            · skip
              have hH29 := jItem_heap (J := J (0 + 1)) (hJ (0 + 1)) hA28
              refine ops_nil ?_
              refine ⟨trivial, ?_⟩
              refine any_takes [14, 15] (by kernel_rfl) trivial _ _ _ (by kernel_rfl) ?_
              refine qs_yes rfl rfl rfl (decide_eq_true hc6) rfl (yv_not rfl) ?_
              refine qs_y rfl rfl (yv_pick_t rfl (decide_eq_true hc6) rfl) ?_
              refine qs_nil ?_
              refine any_done (by kernel_rfl) ?_
              refine thn_n ?_
              refine cond_f rfl rfl ?_
              refine skip ?_
              refine thn_n ?_
              refine seq ?_
              refine region_draw (fun w' => Heap [jItem w27 (J (0 + 1))] w') T.mixed (fun w30 hr31 => ?_)
              have hH32 := hH29.redrawn hr31
              refine any_takes [0, 1, 2, 3, 4, 5, 6, 7, 8, 9, 10, 11] (by kernel_rfl) hH32 _ _ _ (by kernel_rfl) ?_
              refine qs_y rfl rfl (yv_load T.one98 rfl (fun _ hw => bx_cell ((hD _ _ (hw.get (n := 0) rfl)).1.2.2) rfl)) ?_
              refine qs_y rfl rfl (yv_nilck rfl) ?_
              refine qs_y rfl rfl (yv_field T.f103_0 rfl) ?_
              refine qs_y rfl rfl (yv_field T.f41_2 rfl) ?_
              refine qs_y rfl rfl (yv_load T.one39 rfl (fun _ hw => bx_cell ((hD _ _ (hw.get (n := 0) rfl)).2.1) rfl)) ?_
              refine qs_y rfl rfl (yv_load T.one3 rfl (fun _ hw => bx_cell ((hD _ _ (hw.get (n := 0) rfl)).1.2.1) rfl)) ?_
              refine qs_y rfl rfl (yv_quo rfl rfl (by omega) (by omega) (by omega)) ?_
              refine qs_y rfl rfl (yv_index T.sl39 rfl rfl ((hD _ _ (hH32.get (n := 0) rfl)).2.2.2).is (by omega)) ?_
              refine qs_y rfl rfl (yv_load T.one3 rfl (fun _ hw => Rd.at ((hD _ _ (hw.get (n := 0) rfl)).2.2.2) (i := x / 2) (by omega) (j := 0) rfl)) ?_
              refine qs_y rfl rfl (yv_load T.one3 rfl (fun _ hw => bx_cell ((hD _ _ (hw.get (n := 0) rfl)).1.2.1) rfl)) ?_
              refine qs_y rfl rfl (yv_rem rfl rfl (by omega) (by omega)) ?_
              refine qs_y rfl rfl (yv_neq rfl rfl) ?_
              refine qs_nil ?_
              refine any_done (by kernel_rfl) ?_
              refine thn_n ?_
              by_cases hc33 : (nth F (x / 2)) = (x % 2)
              · skip
                have hn2 : ¬ ¬ nth F (x / 2) = x % 2 := fun h => h ‹_›
                refine cond_f rfl (not_decide_n hc33) ?_
                refine skip ?_
                have hpre : ((S.preL L F x).map (Value.int .i64)).length = 1 := by unfold S.preL; rw [if_pos hk1, if_neg hn2]; rfl
                exact ⟨rfl, .inl (by rw [hpre]; exact hH32.get (n := 0) rfl)⟩
              · skip
                have hk2 : ¬ nth F (x / 2) = x % 2 := ‹_›
                refine cond_t rfl (not_decide_t hc33) ?_
                refine region ?_
                refine ops_y hH32 rfl rfl (yv_move rfl) ?_
                refine ops_y hH32 rfl rfl (yv_load T.one3 rfl (fun _ hw => bx_cell ((hD _ _ (hw.get (n := 0) rfl)).1.2.1) rfl)) ?_
                refine ops_y hH32 rfl rfl (yv_xor1 rfl rfl (by omega) (by omega)) ?_
                refine op_yield rfl rfl rfl (hY 1 _ (by unfold S.preL; rw [if_pos hk1, if_pos hk2]; rfl) _ (hH32.get (n := 0) rfl)) (fun w34 hA35 => ?_) (fun w34 hA35 => ?_)
                · skip
                  have hH36 := jItem_heap (J := J (1 + 1)) (hJ (1 + 1)) hA35
                  refine ops_nil ?_
                  have hpre : ((S.preL L F x).map (Value.int .i64)).length = 2 := by unfold S.preL; rw [if_pos hk1, if_pos hk2]; rfl
                  exact ⟨rfl, .inl (by rw [hpre]; exact hH36.get (n := 0) rfl)⟩
                · skip
                  have hH36 := jItem_heap (J := Jx) hJx hA35
                  refine ops_nil ?_
                  exact ⟨rfl, .inr (hH36.get (n := 0) rfl)⟩
            · skip
              have hH29 := jItem_heap (J := Jx) hJx hA28
              refine ops_nil ?_
              refine ⟨trivial, ?_⟩
              refine any_takes [14, 15] (by kernel_rfl) trivial _ _ _ (by kernel_rfl) ?_
              refine qs_yes rfl rfl rfl (decide_eq_true hc6) rfl (yv_not rfl) ?_
              refine qs_y rfl rfl (yv_pick_t rfl (decide_eq_true hc6) rfl) ?_
              refine qs_nil ?_
              refine any_done (by kernel_rfl) ?_
              refine thn_n ?_
              refine cond_t rfl rfl ?_
              refine ret ?_
              refine thn_r ?_
              exact ⟨rfl, .inr (hH29.get (n := 0) rfl)⟩
  · skip
    have hn1 : ¬ 0 < S.place L (x / 2) := ‹_›
    refine any_takes [3, 4, 5, 6, 7, 8, 9, 10, 11, 12, 13, 14, 15] (by kernel_rfl) trivial _ _ _ (by kernel_rfl) ?_
    refine qs_no rfl rfl rfl (decide_eq_false hc6) rfl ?_
    refine qs_no rfl rfl rfl (decide_eq_false hc6) rfl ?_
    refine qs_no rfl rfl rfl (decide_eq_false hc6) rfl ?_
    refine qs_no rfl rfl rfl (decide_eq_false hc6) rfl ?_
    refine qs_no rfl rfl rfl (decide_eq_false hc6) rfl ?_
    refine qs_no rfl rfl rfl (decide_eq_false hc6) rfl ?_
    refine qs_no rfl rfl rfl (decide_eq_false hc6) rfl ?_
    refine qs_no rfl rfl rfl (decide_eq_false hc6) rfl ?_
    refine qs_no rfl rfl rfl (decide_eq_false hc6) rfl ?_
    refine qs_no rfl rfl rfl (decide_eq_false hc6) rfl ?_
    refine qs_no rfl rfl rfl (decide_eq_false hc6) rfl ?_
    refine qs_no rfl rfl rfl (decide_eq_false hc6) rfl ?_
    refine qs_y rfl rfl (yv_pick_f rfl (decide_eq_false hc6) rfl) ?_
    refine qs_nil ?_
    refine any_done (by kernel_rfl) ?_
    refine thn_n ?_
    refine cond_f rfl rfl ?_
    refine skip ?_
    refine thn_n ?_
    refine seq ?_
    refine region_draw (fun w' => Heap [jItem w (J 0)] w') T.mixed (fun w37 hr38 => ?_)
    have hH39 := hH5.redrawn hr38
    refine any_takes [0, 1, 2, 3, 4, 5, 6, 7, 8, 9, 10, 11] (by kernel_rfl) hH39 _ _ _ (by kernel_rfl) ?_
    refine qs_y rfl rfl (yv_load T.one98 rfl (fun _ hw => bx_cell ((hD _ _ (hw.get (n := 0) rfl)).1.2.2) rfl)) ?_
    refine qs_y rfl rfl (yv_nilck rfl) ?_
    refine qs_y rfl rfl (yv_field T.f103_0 rfl) ?_
    refine qs_y rfl rfl (yv_field T.f41_2 rfl) ?_
    refine qs_y rfl rfl (yv_load T.one39 rfl (fun _ hw => bx_cell ((hD _ _ (hw.get (n := 0) rfl)).2.1) rfl)) ?_
    refine qs_y rfl rfl (yv_load T.one3 rfl (fun _ hw => bx_cell ((hD _ _ (hw.get (n := 0) rfl)).1.2.1) rfl)) ?_
    refine qs_y rfl rfl (yv_quo rfl rfl (by omega) (by omega) (by omega)) ?_
    refine qs_y rfl rfl (yv_index T.sl39 rfl rfl ((hD _ _ (hH39.get (n := 0) rfl)).2.2.2).is (by omega)) ?_
    refine qs_y rfl rfl (yv_load T.one3 rfl (fun _ hw => Rd.at ((hD _ _ (hw.get (n := 0) rfl)).2.2.2) (i := x / 2) (by omega) (j := 0) rfl)) ?_
    refine qs_y rfl rfl (yv_load T.one3 rfl (fun _ hw => bx_cell ((hD _ _ (hw.get (n := 0) rfl)).1.2.1) rfl)) ?_
    refine qs_y rfl rfl (yv_rem rfl rfl (by omega) (by omega)) ?_
    refine qs_y rfl rfl (yv_neq rfl rfl) ?_
    refine qs_nil ?_
    refine any_done (by kernel_rfl) ?_
    refine thn_n ?_
    by_cases hc40 : (nth F (x / 2)) = (x % 2)
    · skip
      have hn2 : ¬ ¬ nth F (x / 2) = x % 2 := fun h => h ‹_›
      refine cond_f rfl (not_decide_n hc40) ?_
      refine skip ?_
      have hpre : ((S.preL L F x).map (Value.int .i64)).length = 0 := by unfold S.preL; rw [if_neg hn1, if_neg hn2]; rfl
      exact ⟨rfl, .inl (by rw [hpre]; exact hH39.get (n := 0) rfl)⟩
    · skip
      have hk2 : ¬ nth F (x / 2) = x % 2 := ‹_›
      refine cond_t rfl (not_decide_t hc40) ?_
      refine region ?_
      refine ops_y hH39 rfl rfl (yv_move rfl) ?_
      refine ops_y hH39 rfl rfl (yv_load T.one3 rfl (fun _ hw => bx_cell ((hD _ _ (hw.get (n := 0) rfl)).1.2.1) rfl)) ?_
      refine ops_y hH39 rfl rfl (yv_xor1 rfl rfl (by omega) (by omega)) ?_
      refine op_yield rfl rfl rfl (hY 0 _ (by unfold S.preL; rw [if_neg hn1, if_pos hk2]; rfl) _ (hH39.get (n := 0) rfl)) (fun w41 hA42 => ?_) (fun w41 hA42 => ?_)
      · skip
        have hH43 := jItem_heap (J := J (0 + 1)) (hJ (0 + 1)) hA42
        refine ops_nil ?_
        have hpre : ((S.preL L F x).map (Value.int .i64)).length = 1 := by unfold S.preL; rw [if_neg hn1, if_pos hk2]; rfl
        exact ⟨rfl, .inl (by rw [hpre]; exact hH43.get (n := 0) rfl)⟩
      · skip
        have hH43 := jItem_heap (J := Jx) hJx hA42
        refine ops_nil ?_
        exact ⟨rfl, .inr (hH43.get (n := 0) rfl)⟩

theorem Heap.cap {b5 b3 b2 d lo hi n : Nat} {rv : Value} {x : Int} {H : List Item} {w : World} (hH : Heap H w)
    (hn : H[n]? = some ⟨lo, hi, fun w => ∃ c5 c3 c2 : Nat, (Value.func (.func 98) #[] #[.pointer (some ⟨b5, 0, none⟩), .pointer (some ⟨b3, 0, none⟩), .pointer (some ⟨b2, 0, none⟩)] : Value) = .func (.func 98) #[] #[.pointer (some ⟨c5, 0, none⟩), .pointer (some ⟨c3, 0, none⟩), .pointer (some ⟨c2, 0, none⟩)] ∧ Cap c5 c3 c2 d rv x w⟩) :
    Heap (H.set n ⟨lo, hi, Cap b5 b3 b2 d rv x⟩) w := hH.weaken hn (φ := Cap b5 b3 b2 d rv x) (fun w' h => by
  obtain ⟨c5, c3, c2, e, h⟩ := h
  cases e
  exact h)
theorem rd_row {vb vt : Value} {B U : List Int} {x : Int} {w : World} (hB : Rd encI 1 vb B w) (hT : Rd encI 1 vt U w) : Rd encI 1 (if x % 2 = 1 then vt else vb) (S.row B U (x % 2)) w := by
  unfold S.row; split <;> assumption

theorem c79 {d m : Nat} {vb vt vf : Value} {B U : List Int} {E : List (Int × Int)} {x : Int} {w : World} (hd : Day d vb vt vf m E w) (hB : Rd encI 1 vb B w) (hT : Rd encI 1 vt U w) (hx : 0 ≤ x) (hx1 : x ≤ 1000000)  :
    Fn Try.prog 79 [(.pointer (some ⟨d, 0, none⟩)), (.int .i64 x)].toArray w (fun u w => ∃ c5 c3 c2 : Nat, u = .func (.func 98) #[] #[.pointer (some ⟨c5, 0, none⟩), .pointer (some ⟨c3, 0, none⟩), .pointer (some ⟨c2, 0, none⟩)] ∧ Cap c5 c3 c2 d (if x % 2 = 1 then vt else vb) x w) := by
  refine fn_of' (args := [(.pointer (some ⟨d, 0, none⟩)), (.int .i64 x)]) Try.func79 rfl (ent Try.func79 (by kernel_rfl) rfl) rfl rfl (fun hH => ?_)
  refine seq ?_
  refine region ?_
  refine op_box (us := [(.pointer (some ⟨d, 0, none⟩))]) rfl rfl rfl hH (fun b1 w2 hH3 => ?_)
  refine op_box (us := [(.int .i64 x)]) rfl rfl rfl hH3 (fun b4 w5 hH6 => ?_)
  refine ops_y hH6 rfl rfl (yv_assign rfl) ?_
  refine ops_nil ?_
  refine thn_n ?_
  refine seq ?_
  refine region ?_
  refine ops_y hH6 rfl rfl (yv_load T.one98 rfl (fun _ hw => Heap.cellw hw (n := 1) rfl rfl)) ?_
  refine ops_y hH6 rfl rfl (yv_nilck rfl) ?_
  refine ops_y hH6 rfl rfl (yv_field T.f103_0 rfl) ?_
  refine ops_y hH6 rfl rfl (yv_field T.f41_0 rfl) ?_
  refine ops_y hH6 rfl rfl (yv_load T.one39 rfl (fun _ hw => bx_cell ((hd.now hw (n := 2) rfl).1) rfl)) ?_
  refine op_alloc (z := (.slice none 0 0)) (us := [(.slice none 0 0)]) (fun _ => by kernel_rfl) rfl rfl hH6 (fun b7 w8 hH9 => ?_)
  refine op_store (n := 0) (j := 0) (us := [vb]) rfl rfl hH9 rfl T.sz39 (SliceIs.cells (hB.now hH9 (n := 3) rfl).is) rfl rfl (SliceIs.one (hB.now hH9 (n := 3) rfl).is) (fun w10 hH11 => ?_)
  refine ops_nil ?_
  refine thn_n ?_
  refine seq ?_
  refine seq ?_
  refine region ?_
  refine ops_y hH11 rfl rfl (yv_load T.one3 rfl (fun _ hw => Heap.cellw hw (n := 1) rfl rfl)) ?_
  refine ops_y hH11 rfl rfl (yv_rem rfl rfl (by omega) (by omega)) ?_
  refine ops_y hH11 rfl rfl (yv_eql rfl rfl) ?_
  refine ops_nil ?_
  refine thn_n ?_
  by_cases hc12 : (x % 2) = 1
  · skip
    refine cond_t rfl (decide_eq_true hc12) ?_
    refine region ?_
    refine ops_y hH11 rfl rfl (yv_load T.one98 rfl (fun _ hw => Heap.cellw hw (n := 2) rfl rfl)) ?_
    refine ops_y hH11 rfl rfl (yv_nilck rfl) ?_
    refine ops_y hH11 rfl rfl (yv_field T.f103_0 rfl) ?_
    refine ops_y hH11 rfl rfl (yv_field T.f41_1 rfl) ?_
    refine ops_y hH11 rfl rfl (yv_load T.one39 rfl (fun _ hw => bx_cell ((hd.now hw (n := 3) rfl).1) rfl)) ?_
    refine op_store (n := 0) (j := 0) (us := [vt]) rfl rfl hH11 rfl T.sz39 (SliceIs.cells (hT.now hH11 (n := 3) rfl).is) rfl rfl (SliceIs.one (hT.now hH11 (n := 3) rfl).is) (fun w13 hH14 => ?_)
    refine ops_nil ?_
    refine thn_n ?_
    refine seq ?_
    refine region ?_
    refine ops_y hH14 rfl rfl (yv_func rfl rfl) ?_
    refine ops_y hH14 rfl rfl (yv_assign rfl) ?_
    refine ops_nil ?_
    refine thn_n ?_
    refine ret ?_
    refine fin (hH14.front (n := 3) rfl) (fun w' hf => (res1 rfl (show RV _ _ _ (.tmp 4) _ from rfl))) (fun w' hf => ?_)
    refine ⟨_, _, _, rfl, ?_⟩
    first | rw [if_pos (by omega)] | rw [if_neg (by omega)]
    exact ⟨Heap.bxw hf (n := 0) rfl, Heap.bxw hf (n := 1) rfl, Heap.bxw hf (n := 2) rfl⟩
  · skip
    refine cond_f rfl (decide_eq_false hc12) ?_
    refine skip ?_
    refine thn_n ?_
    refine seq ?_
    refine region ?_
    refine ops_y hH11 rfl rfl (yv_func rfl rfl) ?_
    refine ops_y hH11 rfl rfl (yv_assign rfl) ?_
    refine ops_nil ?_
    refine thn_n ?_
    refine ret ?_
    refine fin (hH11.front (n := 3) rfl) (fun w' hf => (res1 rfl (show RV _ _ _ (.tmp 4) _ from rfl))) (fun w' hf => ?_)
    refine ⟨_, _, _, rfl, ?_⟩
    first | rw [if_pos (by omega)] | rw [if_neg (by omega)]
    exact ⟨Heap.bxw hf (n := 0) rfl, Heap.bxw hf (n := 1) rfl, Heap.bxw hf (n := 2) rfl⟩

theorem c94 {d m n : Nat} {vb vt vf : Value} {B U F : List Int} {E : List (Int × Int)} {x : Int} {w : World} (hd : Day d vb vt vf m E w) (hB : Rd encI 1 vb B w) (hT : Rd encI 1 vt U w) (hF : Rd encI 1 vf F w) (hO : S.Ord n B U F) (hn8 : n ≤ 8) (hx : 0 ≤ x) (hx2 : x < 2 * (n : Int)) (hE : ∀ k e, find k E = some e → 0 ≤ e ∧ e ≤ 1000000)  :
    Fn Try.prog 94 [(.pointer (some ⟨d, 0, none⟩)), (.int .i64 x)].toArray w (fun u _ => u = .tuple #[.int .i64 (S.ready E B U F x).1, .bool (S.ready E B U F x).2]) := by
  refine fn_of' (args := [(.pointer (some ⟨d, 0, none⟩)), (.int .i64 x)]) Try.func94 rfl (ent Try.func94 (by kernel_rfl) rfl) rfl rfl (fun hH => ?_)
  have hO8 := hO
  obtain ⟨hlB, hlU, hlF, hOk⟩ := hO8
  obtain ⟨hr1, hr2, hr3, hr4⟩ := hO.row (x % 2)
  refine seq ?_
  refine region ?_
  refine op_box (us := [(.pointer (some ⟨d, 0, none⟩))]) rfl rfl rfl hH (fun b1 w2 hH3 => ?_)
  refine op_alloc (z := (.int .i64 0)) (us := [(.int .i64 0)]) (fun _ => by kernel_rfl) rfl rfl hH3 (fun b4 w5 hH6 => ?_)
  refine op_alloc (z := (.bool false)) (us := [(.bool false)]) (fun _ => by kernel_rfl) rfl rfl hH6 (fun b7 w8 hH9 => ?_)
  refine ops_nil ?_
  refine thn_n ?_
  refine seq ?_
  refine region ?_
  refine op_alloc (z := (.int .i64 0)) (us := [(.int .i64 0)]) (fun _ => by kernel_rfl) rfl rfl hH9 (fun b10 w11 hH12 => ?_)
  refine op_store (n := 0) (j := 0) (us := [(.int .i64 0)]) rfl rfl hH12 rfl T.sz2 rfl rfl rfl (by rfl) (fun w13 hH14 => ?_)
  refine ops_nil ?_
  refine thn_n ?_
  refine seq ?_
  refine seq ?_
  refine region ?_
  refine ops_y hH14 rfl rfl (yv_load T.one98 rfl (fun _ hw => Heap.cellw hw (n := 3) rfl rfl)) ?_
  refine ops_y hH14 rfl rfl (yv_move rfl) ?_
  refine op_fn rfl rfl rfl hH14 (c79 (hd.now hH14 (n := 4) rfl) (hB.now hH14 (n := 4) rfl) (hT.now hH14 (n := 4) rfl) (by omega) (by omega)) (fun u20 w18 lo21 hi22 hH19 hv23 => ?_)
  obtain ⟨c15, c16, c17, hu, -⟩ := hv23
  subst hu
  have hH24 := Heap.cap hH19 (n := 0) rfl
  refine ops_nil ?_
  refine thn_n ?_
  refine block ?_
  refine rangeFunc (xs := ((S.pre B U F x).map (Value.int .i64))) rfl (it98 (d := d) (m := m) (vb := vb) (vt := vt) (vf := vf) (rv := (if x % 2 = 1 then vt else vb)) (L := S.row B U (x % 2)) (F := F) (x := x) (by omega) (by omega) (by omega) (by omega) (fun i h0 h1 => by have := (hO.row (x % 2)).2.1 i h0 (by omega); omega)) rfl hH24 (fun i H => ∃ a : Int, H = [⟨lo21, hi22, Cap c15 c16 c17 d (if x % 2 = 1 then vt else vb) x⟩, bx b10 2 [(.int .i64 a)], bx b7 4 [(.bool false)], bx b4 2 [(.int .i64 0)], bx b1 98 [(.pointer (some ⟨d, 0, none⟩))], base w] ∧ (0 ≤ a ∧ a ≤ 1000000) ∧ S.readyL E ((S.pre B U F x).drop i) a = S.ready E B U F x) (fun c H => ∃ a : Int, c = .ret ∧ H = [⟨lo21, hi22, Cap c15 c16 c17 d (if x % 2 = 1 then vt else vb) x⟩, bx b10 2 [(.int .i64 a)], bx b7 4 [(.bool false)], bx b4 2 [(.int .i64 0)], bx b1 98 [(.pointer (some ⟨d, 0, none⟩))], base w] ∧ S.ready E B U F x = (0, false)) ⟨0, rfl, ⟨by omega, by omega⟩, rfl⟩ (fun i H w hI hw => ?_) (fun l25 D26 i27 x28 H w30 rc hx29 hI hH31 => ?_) (fun D26 H w30 hI hH31 => ?_) (fun D26 c H w30 hI hH31 => ?_)
  · skip
    obtain ⟨_, rfl, _⟩ := hI
    exact ⟨hw.get (n := 0) rfl, (hd.now hw (n := 5) rfl).1, rd_row (hB.now hw (n := 5) rfl) (hT.now hw (n := 5) rfl), hF.now hw (n := 5) rfl⟩
  · skip
    obtain ⟨a, rfl, ⟨⟨ha0, ha1⟩, hinv⟩⟩ := hI
    obtain ⟨hlt, hxe⟩ := map_get hx29
    subst hxe
    refine region ?_
    refine ops_y hH31 rfl rfl (yv_assign rfl) ?_
    refine ops_nil ?_
    refine ⟨_, hH31, fun w32 hH33 => ?_⟩
    refine block ?_
    refine seq ?_
    refine region ?_
    refine ops_y hH33 rfl rfl (yv_load T.one98 rfl (fun _ hw => Heap.cellw hw (n := 6) rfl rfl)) ?_
    refine ops_y hH33 rfl rfl (yv_nilck rfl) ?_
    refine ops_y hH33 rfl rfl (yv_field T.f103_1 rfl) ?_
    refine ops_y hH33 rfl rfl (yv_load T.one101 rfl (fun _ hw => bx_cell ((hd.now hw (n := 7) rfl).1) rfl)) ?_
    refine ops_y hH33 rfl rfl (yv_move rfl) ?_
    refine ops_y hH33 rfl rfl (yv_build (v := (.agg #[(.int .i64 (nth (S.pre B U F x) (i27 : Int)))])) (us := [(0, (.int .i64 (nth (S.pre B U F x) (i27 : Int))))]) (fun a ha => by simp [ha.ev (show ev _ (.tmp 19) = some _ from rfl)]) (fun w => by kernel_rfl)) ?_
    refine ops_y hH33 rfl rfl (yv_lookup2 (k := nth (S.pre B U F x) (i27 : Int)) T.m101 rfl rfl (fun _ hw => ((hd.now hw (n := 7) rfl).2))) ?_
    refine ops_y hH33 rfl rfl (yv_move rfl) ?_
    refine ops_y hH33 rfl rfl (yv_extract rfl rfl) ?_
    refine ops_y hH33 rfl rfl (yv_extract rfl rfl) ?_
    refine ops_y hH33 rfl rfl (yv_assign rfl) ?_
    refine ops_y hH33 rfl rfl (yv_assign rfl) ?_
    refine ops_nil ?_
    refine thn_n ?_
    refine seq ?_
    refine seq ?_
    refine region ?_
    refine ops_y hH33 rfl rfl (yv_move rfl) ?_
    refine ops_y hH33 rfl rfl (yv_not rfl) ?_
    refine ops_nil ?_
    refine thn_n ?_
    by_cases hc34 : (!((find (nth (S.pre B U F x) (i27 : Int)) E).isSome)) = true
    · skip
      refine cond_t rfl hc34 ?_
      refine seq ?_
      refine region ?_
      refine op_store (n := 5) (j := 0) (us := [(.int .i64 0)]) rfl rfl hH33 rfl T.sz2 rfl rfl rfl (by rfl) (fun w35 hH36 => ?_)
      refine op_store (n := 4) (j := 0) (us := [(.bool false)]) rfl rfl hH36 rfl T.sz4 rfl rfl rfl (by rfl) (fun w37 hH38 => ?_)
      refine ops_nil ?_
      refine thn_n ?_
      refine ret ?_
      refine thn_r ?_
      refine blk_r ?_
      exact ⟨_, ⟨_, ⟨a, rfl, rfl, by rw [← hinv]; exact S.readyL_none hlt ‹_›⟩, rfl⟩, hH38⟩
    · skip
      have hfg := S.find_getD (k := nth (S.pre B U F x) (i27 : Int)) hE
      refine cond_f rfl (Bool.eq_false_iff.2 hc34) ?_
      refine skip ?_
      refine thn_n ?_
      refine region ?_
      refine ops_y hH33 rfl rfl (yv_load T.one2 rfl (fun _ hw => Heap.cellw hw (n := 3) rfl rfl)) ?_
      refine ops_y hH33 rfl rfl (yv_move rfl) ?_
      refine ops_y hH33 rfl rfl (yv_max rfl rfl) ?_
      refine op_store (n := 3) (j := 0) (us := [(.int .i64 (max a ((find (nth (S.pre B U F x) (i27 : Int)) E).getD 0)))]) rfl rfl hH33 rfl T.sz2 rfl rfl rfl (by rfl) (fun w39 hH40 => ?_)
      refine ops_nil ?_
      refine blk_n ?_
      exact ⟨_, ⟨_, ⟨max a ((find (nth (S.pre B U F x) (i27 : Int)) E).getD 0), rfl, ⟨by omega, by omega⟩, by rw [← S.readyL_some hlt ‹_›]; exact hinv⟩, rfl⟩, hH40⟩
  · skip
    obtain ⟨a, rfl, ⟨⟨ha0, ha1⟩, hinv⟩⟩ := hI
    have hH41 := hH31.perm (List.perm_append_comm (l₁ := [_]))
    refine blk_n ?_
    refine thn_n ?_
    refine seq ?_
    refine region ?_
    refine ops_y hH41 rfl rfl (yv_load T.one2 rfl (fun _ hw => Heap.cellw hw (n := 1) rfl rfl)) ?_
    refine op_store (n := 3) (j := 0) (us := [(.int .i64 a)]) rfl rfl hH41 rfl T.sz2 rfl rfl rfl (by rfl) (fun w42 hH43 => ?_)
    refine op_store (n := 2) (j := 0) (us := [(.bool true)]) rfl rfl hH43 rfl T.sz4 rfl rfl rfl (by rfl) (fun w44 hH45 => ?_)
    refine ops_nil ?_
    refine thn_n ?_
    refine ret ?_
    have hH46 := (hH45.sub (List.Sublist.cons _ (List.Sublist.cons _ (List.Sublist.cons_cons _ (List.Sublist.cons_cons _ (List.Sublist.cons _ (List.Sublist.refl _)))))))
    refine fin_m (H := [bx b7 4 [(.bool true)], bx b4 2 [(.int .i64 a)]]) [D26] (hH46.front (n := 2) rfl) (fun w' hf => (res2 rfl (rv1 rfl T.one2 (bx_cell (Heap.bxw hf (n := 2) rfl) rfl)) (rv1 rfl T.one4 (bx_cell (Heap.bxw hf (n := 1) rfl) rfl)))) (fun w' hf => ?_)
    first | (rw [hinv]; done) | (rw [← hinv, List.length_map, List.drop_length]; rfl)
  · skip
    obtain ⟨a, rfl, rfl, hinv⟩ := hI
    have hH47 := hH31.perm (List.perm_append_comm (l₁ := [_]))
    refine ret ?_
    refine blk_r ?_
    refine thn_r ?_
    have hH48 := (hH47.sub (List.Sublist.cons _ (List.Sublist.cons _ (List.Sublist.cons_cons _ (List.Sublist.cons_cons _ (List.Sublist.cons _ (List.Sublist.refl _)))))))
    refine fin_m (H := [bx b7 4 [(.bool false)], bx b4 2 [(.int .i64 0)]]) [D26] (hH48.front (n := 2) rfl) (fun w' hf => (res2 rfl (rv1 rfl T.one2 (bx_cell (Heap.bxw hf (n := 2) rfl) rfl)) (rv1 rfl T.one4 (bx_cell (Heap.bxw hf (n := 1) rfl) rfl)))) (fun w' hf => ?_)
    first | (rw [hinv]; done) | (rw [← hinv, List.length_map, List.drop_length]; rfl)

end Go.Fip
