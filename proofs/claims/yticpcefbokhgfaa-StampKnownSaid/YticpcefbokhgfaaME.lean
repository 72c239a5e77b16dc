/- Joined texts: Wk, Wl, Wm, Wn, Wo, Wp, Wq. -/
import Derived.Test.YticpcefbokhgfaaMD
import Derived.Test.YticpcefbokhgfaaMC
import Derived.Test.YticpcefbokhgfaaMB
set_option linter.unusedVariables false
set_option linter.unusedSimpArgs false
set_option linter.unusedSectionVars false
set_option linter.unnecessarySimpa false
namespace Go.Fip
open Go.Proofs Go.RowKit

/-- The first of several that is good. -/
def fnd (p : Int → Bool) (l : List Int) : Int × Bool := if 0 ≤ idx p l then (nth l (idx p l), true) else (0, false)
theorem fnd_hit {p : Int → Bool} {l : List Int} {k : Nat} (hk : k < l.length) (hall : ∀ i, i < k → p (nth l (i : Int)) = false) (hp : p (nth l (k : Int)) = true) : fnd p l = (nth l (k : Int), true) := by
  unfold fnd; rw [idx_hit hk hall hp, if_pos (by omega)]
theorem fnd_miss {p : Int → Bool} {l : List Int} (hall : ∀ i, i < l.length → p (nth l (i : Int)) = false) : fnd p l = (0, false) := by
  unfold fnd; rw [idx_miss hall, if_neg (by omega)]
theorem tupb {p : Int × Bool} {a : Int} {b : Bool} (h : p = (a, b)) : Value.tuple #[.int .i64 a, .bool b] = .tuple #[.int .i64 p.1, .bool p.2] := by subst h; rfl

theorem c87 {i : Int} {b1 b : Nat} {v : Value} {l : List Int} {w : World} (k1 : Bx b1 73 [.pointer (some ⟨b, 0, none⟩)] w) (k2 : Bx b 89 [v] w) (h0 : Rd encI 1 v l w) (h1 : 1 ≤ i) (h2 : i < (l.length : Int)) (hn : l.length ≤ 1000000)  :
    Fn Try.prog 87 [(.int .i64 i), (.pointer (some ⟨b1, 0, none⟩))].toArray w (fun u _ => u = .bool (decide (nth l i < nth l (i - 1)))) := by
  refine fn_of' (args := [(.int .i64 i), (.pointer (some ⟨b1, 0, none⟩))]) Try.func87 rfl (ent Try.func87 (by kernel_rfl) rfl) rfl rfl (fun hH => ?_)
  refine seq (region (ops_y hH rfl rfl (yv_assign rfl) (ops_nil (thn_n (seq ?_)))))
  refine region_draw (fun w' => Heap [base w] w') T.mixed (fun w1 hr2 => ?_)
  have hH3 := hH.redrawn hr2
  refine any_takes [0, 1, 2, 3, 4, 5, 6, 7, 8, 9, 10, 11, 12, 13, 14, 15, 16, 17, 18] (by kernel_rfl) hH3 _ _ _ (by kernel_rfl) ?_
  refine qs_y rfl rfl (yv_load T.one73 rfl (fun _ hw => bx_cell (k1.now hw (n := 0) rfl) rfl)) ?_
  refine qs_y rfl rfl (yv_nilck rfl) ?_
  refine qs_y rfl rfl (yv_field T.f89_0 rfl) ?_
  refine qs_y rfl rfl (yv_field T.f87_0 rfl) ?_
  refine qs_y rfl rfl (yv_load T.one22 rfl (fun _ hw => bx_cell (k2.now hw (n := 0) rfl) rfl)) ?_
  refine qs_y rfl rfl (yv_move rfl) ?_
  refine qs_y rfl rfl (yv_sub rfl rfl (by omega)) ?_
  refine qs_y rfl rfl (yv_index T.sl22 rfl rfl (h0.now hH3 (n := 0) rfl).is (by omega)) ?_
  refine qs_y rfl rfl (yv_load T.one3 rfl (fun _ hw => Rd.at (h0.now hw (n := 0) rfl) (i := i - 1) (by omega) (j := 0) rfl)) ?_
  refine qs_y rfl rfl (yv_load T.one73 rfl (fun _ hw => bx_cell (k1.now hw (n := 0) rfl) rfl)) ?_
  refine qs_y rfl rfl (yv_nilck rfl) ?_
  refine qs_y rfl rfl (yv_field T.f89_0 rfl) ?_
  refine qs_y rfl rfl (yv_field T.f87_0 rfl) ?_
  refine qs_y rfl rfl (yv_load T.one22 rfl (fun _ hw => bx_cell (k2.now hw (n := 0) rfl) rfl)) ?_
  refine qs_y rfl rfl (yv_move rfl) ?_
  refine qs_y rfl rfl (yv_index T.sl22 rfl rfl (h0.now hH3 (n := 0) rfl).is (by omega)) ?_
  refine qs_y rfl rfl (yv_load T.one3 rfl (fun _ hw => Rd.at (h0.now hw (n := 0) rfl) (i := i) (by omega) (j := 0) rfl)) ?_
  refine qs_y rfl rfl (yv_gtr rfl rfl) ?_
  refine qs_y rfl rfl (yv_assign rfl) (qs_nil ?_)
  refine any_done (by kernel_rfl) ?_
  refine thn_n (ret ?_)
  refine fin hH3 (fun w' hf => (res1 rfl (show RV _ _ _ (.tmp 3) _ from rfl))) (fun w' hf => ?_)
  rfl

theorem c85_87 {u : Value} {m : List Int} {b1 b : Nat} {v : Value} {l : List Int} {w : World} (k1 : Bx b1 73 [.pointer (some ⟨b, 0, none⟩)] w) (k2 : Bx b 89 [v] w) (h0 : Rd encI 1 v l w) (h1 : Rd encI 1 u m w) (hm : m.length ≤ 1000) (hn : l.length ≤ 1000000) (hin : ∀ i, i < m.length → 1 ≤ nth m (i : Int) ∧ nth m (i : Int) < (l.length : Int))  :
    Fn Try.prog 85 [u, (.func (.func 87) #[] #[(.pointer (some ⟨b1, 0, none⟩))])].toArray w (fun u _ => u = .tuple #[.int .i64 (fnd (fun i : Int => decide (nth l i < nth l (i - 1))) m).1, .bool (fnd (fun i : Int => decide (nth l i < nth l (i - 1))) m).2]) := by
  refine fn_of' (args := [u, (.func (.func 87) #[] #[(.pointer (some ⟨b1, 0, none⟩))])]) Try.func85 rfl (ent Try.func85 (by kernel_rfl) rfl) rfl rfl (fun hH => ?_)
  refine seq (region (ops_y hH rfl rfl (yv_assign rfl) (ops_y hH rfl rfl (yv_assign rfl) (ops_nil (thn_n (seq (seq (region (ops_y hH rfl rfl (yv_move rfl) ?_)))))))))
  refine ops_y hH rfl rfl (yv_len T.sl22 rfl (h1.now hH (n := 0) rfl).is) ?_
  refine ops_y hH rfl rfl (yv_move rfl) (ops_nil (thn_n (block ?_)))
  refine loop (S := Nat) (fun k => [(11, (.int .i64 (k : Int))), (1, (.func (.func 87) #[] #[(.pointer (some ⟨b1, 0, none⟩))])), (9, u), (10, (.int .i64 (m.length : Int)))]) (fun k w1 => Heap [base w] w1 ∧ k ≤ m.length ∧ ∀ i, i < k → (fun i : Int => decide (nth l i < nth l (i - 1))) (nth m (i : Int)) = false) (fun k => m.length - k) (0) (Sub.cons rfl (Sub.cons rfl (Sub.cons rfl (Sub.cons rfl (Sub.nil _))))) ?_ ?_
  · exact ⟨hH, by omega, S.all_zero⟩
  · rintro k w1 ⟨hH2, hk, hall⟩
    show Holds _ _ _ _ _ [(11, (.int .i64 (k : Int))), (1, (.func (.func 87) #[] #[(.pointer (some ⟨b1, 0, none⟩))])), (9, u), (10, (.int .i64 (m.length : Int)))] _ _
    refine seq (region ?_)
    refine ops_y hH2 rfl rfl (yv_lss rfl rfl) ?_
    refine ops_nil (thn_n (seq ?_))
    by_cases hc3 : (k : Int) < (m.length : Int)
    · skip
      refine cond_t rfl (decide_eq_true hc3) ?_
      refine skip (thn_n (seq (block (seq (region ?_)))))
      refine ops_y hH2 rfl rfl (yv_index T.sl22 rfl rfl (h1.now hH2 (n := 0) rfl).is (by omega)) ?_
      refine ops_y hH2 rfl rfl (yv_load T.one3 rfl (fun _ hw => Rd.at (h1.now hw (n := 0) rfl) (i := (k : Int)) (by omega) (j := 0) rfl)) ?_
      refine ops_y hH2 rfl rfl (yv_assign rfl) (ops_nil (thn_n (seq ?_)))
      have hik := hin k (by omega)
      refine region (ops_y hH2 rfl rfl (yv_move rfl) (ops_y hH2 rfl rfl (yv_move rfl) ?_))
      refine op_fnV rfl rfl rfl hH2 (c87 (k1.now hH2 (n := 0) rfl) (k2.now hH2 (n := 0) rfl) (h0.now hH2 (n := 0) rfl) (by omega) (by omega) (by omega)) (fun w4 hH5 => ?_)
      refine ops_nil (thn_n ?_)
      by_cases hc6 : nth l (nth m (k : Int)) < nth l ((nth m (k : Int)) - 1)
      · skip
        have hp : (fun i : Int => decide (nth l i < nth l (i - 1))) (nth m (k : Int)) = true := (decide_eq_true hc6)
        refine cond_t rfl (decide_eq_true hc6) ?_
        refine seq (region (ops_y hH5 rfl rfl (yv_move rfl) (ops_y hH5 rfl rfl (yv_assign rfl) (ops_y hH5 rfl rfl (yv_assign rfl) (ops_nil (thn_n (ret (blk_r (thn_r ?_)))))))))
        refine lp_r (blk_r (thn_r ?_))
        refine fin hH5 (fun w' hf => (res2 rfl (show RV _ _ _ (.tmp 4) _ from rfl) (show RV _ _ _ (.tmp 5) _ from rfl))) (fun w' hf => ?_)
        first | exact tupb (fnd_hit (k := k) (by omega) hall hp) | exact tupb (fnd_miss (fun i hi => hall i (by omega)))
      · skip
        have hp : (fun i : Int => decide (nth l i < nth l (i - 1))) (nth m (k : Int)) = false := (decide_eq_false hc6)
        refine cond_f rfl (decide_eq_false hc6) ?_
        refine skip (blk_n (thn_n (region ?_)))
        refine ops_y hH5 rfl rfl (yv_add rfl rfl (by omega)) ?_
        refine ops_y hH5 rfl rfl (yv_move rfl) (ops_nil ?_)
        refine lp_n (k + 1) (Sub.cons rfl (Sub.cons rfl (Sub.cons rfl (Sub.cons rfl (Sub.nil _))))) ?_ ?_
        · exact ⟨hH5, by omega, S.all_snoc hall hp⟩
        · first | (dsimp only; omega) | (show _ < _; omega)
    · skip
      refine cond_f rfl (decide_eq_false hc3) ?_
      refine exit (thn_x (lp_x (blk_here (thn_n (seq (region (ops_y hH2 rfl rfl (yv_assign rfl) (ops_nil (thn_n ?_)))))))))
      refine seq (region (ops_y hH2 rfl rfl (yv_move rfl) (ops_y hH2 rfl rfl (yv_assign rfl) (ops_y hH2 rfl rfl (yv_assign rfl) (ops_nil (thn_n (ret ?_)))))))
      refine fin hH2 (fun w' hf => (res2 rfl (show RV _ _ _ (.tmp 4) _ from rfl) (show RV _ _ _ (.tmp 5) _ from rfl))) (fun w' hf => ?_)
      first | exact tupb (fnd_hit (k := k) (by omega) hall hp) | exact tupb (fnd_miss (fun i hi => hall i (by omega)))

end Go.Fip

set_option linter.unusedVariables false
set_option linter.unusedSimpArgs false
set_option linter.unusedSectionVars false
set_option linter.unnecessarySimpa false
namespace Go.Fip
open Go.Proofs Go.RowKit

theorem fnd_down {m : List Int} {k : Nat} (h : S.downAt m = some k) : fnd (fun i : Int => decide (nth m i < nth m (i - 1))) ((S.right m.length).drop 1) = ((k : Int) + 1, true) := by
  obtain ⟨h1, h2, h3⟩ := S.downAt_some.1 h
  have hl := drop_right_length (n := m.length)
  have e : ∀ j, j + 1 < m.length → nth ((S.right m.length).drop 1) (j : Int) = (j : Int) + 1 := fun j hj => drop_right hj
  rw [fnd_hit (k := k) (by omega) (fun j hj => ?_) ?_, e k h1]
  · rw [e k h1, show ((k : Int) + 1 - 1) = (k : Int) by omega]; exact decide_eq_true h2
  · rw [e j (by omega), show ((j : Int) + 1 - 1) = (j : Int) by omega]; exact decide_eq_false (h3 j hj)
theorem fnd_down0 {m : List Int} (h : S.downAt m = none) : fnd (fun i : Int => decide (nth m i < nth m (i - 1))) ((S.right m.length).drop 1) = (0, false) := by
  have h3 := S.downAt_none.1 h
  have hl := drop_right_length (n := m.length)
  refine fnd_miss fun j hj => ?_
  rw [drop_right (by omega), show ((j : Int) + 1 - 1) = (j : Int) by omega]; exact decide_eq_false (h3 j (by omega))
theorem drop_right_in {n : Nat} : ∀ i, i < ((S.right n).drop 1).length → 1 ≤ nth ((S.right n).drop 1) (i : Int) ∧ nth ((S.right n).drop 1) (i : Int) < (n : Int) := fun i hi => by
  rw [drop_right_length] at hi
  rw [drop_right (by omega)]
  omega
namespace S
theorem J.steps_len {l : List Int} (h : J l) : (steps l).length ≤ 100 := by
  rw [(J.steps_ok _ h rfl).1, ← wrongOf_length]
  have := wrongTo_le (l := l) h.2.1 l.length
  have := h.2.1
  unfold wrongOf
  omega
def stepsR (l : List Int) : List Int × Int := if check l 0 ≠ 0 then ([], check l 0) else (steps l, 0)
theorem sp1 {l : List Int} (h : ¬ check l 0 = 0) : stepsR l = ([], check l 0) := if_pos h
theorem sp2 {l : List Int} (h : check l 0 = 0) : stepsR l = (steps l, 0) := if_neg fun k => k h
/-- Steps so far, and what is still to be done. -/
def Mid (l m ks : List Int) : Prop := J m ∧ m.length = l.length ∧ steps l = ks ++ steps m ∧ ks.length ≤ 100
theorem Mid.start {l : List Int} (h : J l) : Mid l l [] := ⟨h, rfl, rfl, by simp⟩
theorem Mid.lt {l m ks : List Int} {k : Nat} (h : Mid l m ks) (hj : J l) (hd : downAt m = some k) : ks.length + 1 ≤ 100 := by
  have h1 := hj.steps_len
  rw [h.2.2.1, steps_step hd, List.length_append, List.length_cons] at h1
  omega
theorem Mid.next {l m ks : List Int} {k : Nat} (h : Mid l m ks) (hj : J l) (hd : downAt m = some k) : Mid l (swp m (k : Int) ((k : Int) + 1)) (ks ++ [(k : Int)]) := by
  obtain ⟨h1, h2, h3, h4⟩ := h
  obtain ⟨g1, g2, g3⟩ := downAt_some.1 hd
  refine ⟨h1.swp (by omega) (by omega) (by omega) (by omega), by rw [swp_length]; exact h2, ?_, ?_⟩
  · rw [h3, steps_step hd, List.append_assoc]; rfl
  · have := Mid.lt ⟨h1, h2, h3, h4⟩ hj hd
    simpa using this
theorem Mid.inv {l m ks : List Int} {k : Nat} (h : Mid l m ks) (hd : downAt m = some k) : inv (swp m (k : Int) ((k : Int) + 1)) + 1 = inv m := by
  obtain ⟨g1, g2, g3⟩ := downAt_some.1 hd
  have := inv_step g1
  rw [if_pos g2, if_neg (by omega)] at this
  omega
theorem Mid.done {l m ks : List Int} (h : Mid l m ks) (hd : downAt m = none) : ks = steps l := by
  rw [h.2.2.1, steps_done hd, List.append_nil]
theorem inv_le {l : List Int} (h : J l) : inv l ≤ 100 := by rw [← (J.steps_ok _ h rfl).1]; exact h.steps_len
end S

theorem c31 {v : Value} {l : List Int} {w : World} (h0 : Rd encI 1 v l w) (hn : l.length ≤ 1000000)  :
    Fn Try.prog 31 [v].toArray w (fun u w => ∃ q, u = .tuple #[q, .int .i64 (S.stepsR l).2] ∧ Own 3 1 encI q (S.stepsR l).1 w) := by
  refine fn_of' (args := [v]) Try.func31 rfl (ent Try.func31 (by kernel_rfl) rfl) rfl rfl (fun hH => ?_)
  refine seq (region (ops_y hH rfl rfl (yv_assign rfl) (ops_y hH rfl rfl (yv_assign rfl) (ops_nil (thn_n (seq ?_))))))
  by_cases hc1 : S.check l 0 = 0
  · skip
    have hc0 : S.check l 0 = 0 := ‹_›
    have hj : S.J l := S.check_iff.1 hc0
    have hl1 := hj.1
    have hl10 := hj.2.1
    refine region (ops_y hH rfl rfl (yv_move rfl) ?_)
    refine op_fn rfl rfl rfl hH (c72 (h0.now hH (n := 0) rfl) (by omega) hj) (fun u4 w2 lo5 hi6 hH3 hv7 => ?_)
    obtain ⟨b8, r9, hu, hb10⟩ := hv7
    subst hu
    obtain ⟨g11, hH12⟩ := Heap.toBench hH3 (n := 0) rfl (fun w' h => by obtain ⟨b1, v1, e, h⟩ := h; cases e; exact ⟨v1, h⟩) hb10 (by omega)
    refine ops_y hH12 rfl rfl (yv_move rfl) (ops_y hH12 rfl rfl (yv_extract rfl rfl) (ops_y hH12 rfl rfl (yv_extract rfl rfl) ?_))
    refine op_alloc (z := (.pointer none)) (us := [(.pointer none)]) (fun _ => by kernel_rfl) rfl rfl hH12 (fun b13 w14 hH15 => ?_)
    refine op_store (n := 0) (j := 0) (us := [(.pointer (some ⟨b8, 0, none⟩))]) rfl rfl hH15 rfl T.sz73 rfl rfl rfl (by rfl) (fun w16 hH17 => ?_)
    refine ops_y hH17 rfl rfl (yv_assign rfl) (ops_nil (thn_n (seq (seq (region (ops_y hH17 rfl rfl (yv_move rfl) ?_))))))
    refine ops_y hH17 rfl rfl (yv_neq rfl rfl) ?_
    refine ops_nil (thn_n ?_)
    refine cond_f rfl rfl ?_
    refine skip (thn_n (seq (region (ops_y hH17 rfl rfl (yv_assign rfl) (ops_nil (thn_n (block ?_)))))))
    have hH18 := ow_nil (enc := encI) 3 1 hH17
    refine loop (S := List Int × List Int × Value × Nat × Nat × Value × Nat × Nat) (fun (m, ks, v_6, lo_6, hi_6, v_b12, lo_b12, hi_b12) => [(6, v_6), (4, (.pointer (some ⟨b13, 0, none⟩))), (12, (.pointer (some ⟨b8, 0, none⟩)))]) (fun (m, ks, v_6, lo_6, hi_6, v_b12, lo_b12, hi_b12) w1 => Heap [ow lo_6 hi_6 3 1 encI v_6 ks, bx b13 73 [(.pointer (some ⟨b8, 0, none⟩))], ow lo_b12 hi_b12 3 1 encI v_b12 m, bx b8 89 [v_b12], base w] w1 ∧ S.Mid l m ks) (fun (m, ks, v_6, lo_6, hi_6, v_b12, lo_b12, hi_b12) => S.inv m) (l, [], (.slice none 0 0), w16.heap.size, w16.heap.size, r9, g11, (g11 + 1)) (Sub.cons rfl (Sub.cons rfl (Sub.cons rfl (Sub.nil _)))) ?_ ?_
    · exact ⟨(Heap.recast (n := 0) hH18 rfl (rfl)), S.Mid.start hj⟩
    · rintro ⟨m, ks, v_6, lo_6, hi_6, v_b12, lo_b12, hi_b12⟩ w19 ⟨hH20, hmid⟩
      show Holds _ _ _ _ _ [(6, v_6), (4, (.pointer (some ⟨b13, 0, none⟩))), (12, (.pointer (some ⟨b8, 0, none⟩)))] _ _
      have hjm := hmid.1
      have hml := hmid.2.1
      have hm10 := hjm.2.1
      have hm1 := hjm.1
      have hkl := hmid.2.2.2
      have hdl := drop_right_length (n := m.length)
      have hrl := S.right_length m.length
      refine block (seq ?_)
      by_cases hc21 : ∃ k, S.downAt m = some k
      · skip
        obtain ⟨kd, hdk⟩ := ‹∃ k, S.downAt m = some k›
        have hkd := S.downAt_some.1 hdk
        have hfd := fnd_down hdk
        have hkl2 := hmid.lt hj hdk
        refine region ?_
        refine ops_y hH20 rfl rfl (yv_load T.one73 rfl (fun _ hw => Heap.cellw hw (n := 1) rfl rfl)) ?_
        refine ops_y hH20 rfl rfl (yv_nilck rfl) ?_
        refine ops_y hH20 rfl rfl (yv_field T.f89_0 rfl) ?_
        refine ops_y hH20 rfl rfl (yv_loadA (cs := [v_b12]) T.agg87 rfl rfl (fun _ hw => Heap.cellsw hw (n := 3) rfl (k := 0) rfl)) ?_
        refine op_fn rfl rfl rfl hH20 (c86 (Heap.rdw T.el22_encI hH20 (n := 2) rfl) (by omega) (by omega)) (fun u24 w22 lo25 hi26 hH23 hv27 => ?_)
        have hH28 := Heap.toOw hH23 (n := 0) rfl
        refine ops_y hH28 rfl rfl (yv_cut_lo T.sl22 rfl rfl (Heap.rdw T.el22_encI hH28 (n := 0) rfl).is (by omega)) ?_
        refine ops_y hH28 rfl rfl (yv_func rfl rfl) ?_
        have hev31 : Fn Try.prog 85 [(cutv u24 1 1 (S.right m.length).length), (.func (.func 87) #[] #[(.pointer (some ⟨b13, 0, none⟩))])].toArray _ _ := c85_87 (Heap.bxw hH28 (n := 2) rfl) (Heap.bxw hH28 (n := 4) rfl) (Heap.rdw T.el22_encI hH28 (n := 3) rfl) (Rd.from (Heap.rdw T.el22_encI hH28 (n := 0) rfl) (lo := 1) (by omega)) (by omega) (by omega) drop_right_in
        simp only [hfd] at hev31
        refine op_fnV rfl rfl rfl hH28 (hev31) (fun w29 hH30 => ?_)
        refine ops_y hH30 rfl rfl (yv_move rfl) (ops_y hH30 rfl rfl (yv_extract rfl rfl) (ops_y hH30 rfl rfl (yv_extract rfl rfl) (ops_y hH30 rfl rfl (yv_assign rfl) (ops_y hH30 rfl rfl (yv_assign rfl) (ops_nil (thn_n (seq (seq (region ?_)))))))))
        refine ops_y hH30 rfl rfl (yv_move rfl) ?_
        refine ops_y hH30 rfl rfl (yv_not rfl) ?_
        refine ops_nil (thn_n ?_)
        refine cond_f rfl rfl ?_
        refine skip (thn_n (seq (region ?_)))
        refine ops_y hH30 rfl rfl (yv_load T.one73 rfl (fun _ hw => Heap.cellw hw (n := 2) rfl rfl)) ?_
        refine ops_y hH30 rfl rfl (yv_move rfl) ?_
        refine ops_y hH30 rfl rfl (yv_sub rfl rfl (by omega)) ?_
        refine ops_y hH30 rfl rfl (yv_move rfl) ?_
        obtain ⟨g32, hgb33, hgl34⟩ := Ow.blk (show Ow _ _ _ _ _ _ _ _ from hH30.get (n := 3) rfl) (by omega)
        refine op_fnM (g := g32) (n := 3) rfl rfl rfl hH30 rfl hgl34 (c83 (Heap.own hH30 (n := 3) rfl) hgb33 (Heap.bxw hH30 (n := 4) rfl) (Heap.ne hH30 (n := 3) (m := 4) rfl rfl hgl34 (by decide)) (by omega) (by omega) (by omega) (by omega) (by omega)) (fun u37 w35 hH36 hv38 => ?_)
        have hH39 := Heap.toOw hH36 (n := 3) rfl
        refine ops_nil (thn_n (region (ops_y hH39 rfl rfl (yv_move rfl) (ops_y hH39 rfl rfl (yv_move rfl) ?_))))
        refine ops_y hH39 rfl rfl (yv_len T.sl22 rfl (Heap.rdw T.el22_encI hH39 (n := 1) rfl).is) ?_
        refine ops_y hH39 rfl rfl (yv_move rfl) ?_
        refine ops_y hH39 rfl rfl (yv_len T.sl22 rfl (Heap.rdw T.el22_encI hH39 (n := 1) rfl).is) ?_
        refine ops_y hH39 rfl rfl (yv_cut3 T.sl22 rfl rfl rfl (Heap.rdw T.el22_encI hH39 (n := 1) rfl).is (by omega)) ?_
        refine ops_y hH39 rfl rfl (yv_move rfl) ?_
        refine ops_y hH39 rfl rfl (yv_sub rfl rfl (by omega)) ?_
        refine op_lit (us := [(0, (.int .i64 (((kd : Int) + 1) - 1)))]) T.el22_encI [((kd : Int) + 1) - 1] rfl (by decide) rfl (fun a ha => by simp [ha.ev (show ev _ (.tmp 43) = some _ from rfl)]) (fun w => by kernel_rfl) hH39 (fun u40 lo42 hi43 w41 hH44 => ?_)
        obtain ⟨ac50, hce51⟩ := cut3_shape (sz := 1) (Heap.rdw T.el22_encI hH44 (n := 2) rfl).is
        refine op_append_new T.el22_encI rfl hce51 rfl rfl hH44 (Rd.cut3n (Heap.rdw T.el22_encI hH44 (n := 2) rfl) ) (Heap.rdw T.el22_encI hH44 (n := 0) rfl) (by simp) (by first | omega | (simp only [List.length_append, List.length_cons, List.length_nil]; omega)) (fun u52 lo54 hi55 w53 hH56 => ?_)
        refine ops_y hH56 rfl rfl (yv_assign rfl) (ops_nil (blk_n ?_))
        have hH57 := (hH56.sub (List.Sublist.cons_cons _ (List.Sublist.cons _ (List.Sublist.cons _ (List.Sublist.cons _ (List.Sublist.refl _))))))
        refine lp_n ((S.swp m (kd : Int) ((kd : Int) + 1)), (ks ++ [(kd : Int)]), u52, lo54, hi55, v_b12, lo_b12, hi_b12) (Sub.cons rfl (Sub.cons rfl (Sub.cons rfl (Sub.nil _)))) ?_ ?_
        · exact ⟨(Heap.recast (n := 0) (Heap.recast (n := 2) hH57 rfl (by rw [show (kd : Int) + 1 - 1 = (kd : Int) by omega])) rfl (by rw [show (kd : Int) + 1 - 1 = (kd : Int) by omega])), hmid.next hj hdk⟩
        · (have hq := hmid.inv hdk; dsimp only; omega)
      · skip
        have hdn : S.downAt m = none := Option.eq_none_iff_forall_not_mem.2 (fun k hk => ‹¬ ∃ k, S.downAt m = some k› ⟨k, hk⟩)
        have hfd := fnd_down0 hdn
        refine region ?_
        refine ops_y hH20 rfl rfl (yv_load T.one73 rfl (fun _ hw => Heap.cellw hw (n := 1) rfl rfl)) ?_
        refine ops_y hH20 rfl rfl (yv_nilck rfl) ?_
        refine ops_y hH20 rfl rfl (yv_field T.f89_0 rfl) ?_
        refine ops_y hH20 rfl rfl (yv_loadA (cs := [v_b12]) T.agg87 rfl rfl (fun _ hw => Heap.cellsw hw (n := 3) rfl (k := 0) rfl)) ?_
        refine op_fn rfl rfl rfl hH20 (c86 (Heap.rdw T.el22_encI hH20 (n := 2) rfl) (by omega) (by omega)) (fun u60 w58 lo61 hi62 hH59 hv63 => ?_)
        have hH64 := Heap.toOw hH59 (n := 0) rfl
        refine ops_y hH64 rfl rfl (yv_cut_lo T.sl22 rfl rfl (Heap.rdw T.el22_encI hH64 (n := 0) rfl).is (by omega)) ?_
        refine ops_y hH64 rfl rfl (yv_func rfl rfl) ?_
        have hev67 : Fn Try.prog 85 [(cutv u60 1 1 (S.right m.length).length), (.func (.func 87) #[] #[(.pointer (some ⟨b13, 0, none⟩))])].toArray _ _ := c85_87 (Heap.bxw hH64 (n := 2) rfl) (Heap.bxw hH64 (n := 4) rfl) (Heap.rdw T.el22_encI hH64 (n := 3) rfl) (Rd.from (Heap.rdw T.el22_encI hH64 (n := 0) rfl) (lo := 1) (by omega)) (by omega) (by omega) drop_right_in
        simp only [hfd] at hev67
        refine op_fnV rfl rfl rfl hH64 (hev67) (fun w65 hH66 => ?_)
        refine ops_y hH66 rfl rfl (yv_move rfl) (ops_y hH66 rfl rfl (yv_extract rfl rfl) (ops_y hH66 rfl rfl (yv_extract rfl rfl) (ops_y hH66 rfl rfl (yv_assign rfl) (ops_y hH66 rfl rfl (yv_assign rfl) (ops_nil (thn_n (seq (seq (region ?_)))))))))
        refine ops_y hH66 rfl rfl (yv_move rfl) ?_
        refine ops_y hH66 rfl rfl (yv_not rfl) ?_
        refine ops_nil (thn_n ?_)
        refine cond_t rfl rfl ?_
        refine seq (region (ops_y hH66 rfl rfl (yv_move rfl) (ops_y hH66 rfl rfl (yv_assign rfl) (ops_y hH66 rfl rfl (yv_assign rfl) (ops_nil (thn_n (ret (thn_r (blk_r ?_)))))))))
        refine lp_r (blk_r ?_)
        have hH68 := (hH66.sub (List.Sublist.cons _ (List.Sublist.cons_cons _ (List.Sublist.cons _ (List.Sublist.cons _ (List.Sublist.cons _ (List.Sublist.refl _)))))))
        refine fin (hH68.front (n := 1) rfl) (fun w' hf => (res2 rfl (show RV _ _ _ (.tmp 2) _ from rfl) (show RV _ _ _ (.tmp 3) _ from rfl))) (fun w' hf => ?_)
        first | (rw [S.sp1 hcn]; exact ⟨_, rfl, own_nil⟩) | (rw [S.sp2 hc0, ← hmid.done hdn]; exact ⟨_, rfl, Heap.own hf (n := 0) rfl⟩)
  · skip
    have hcn : ¬ S.check l 0 = 0 := ‹_›
    refine region (ops_y hH rfl rfl (yv_move rfl) ?_)
    refine op_fnV rfl rfl rfl hH (c72n (h0.now hH (n := 0) rfl) (by omega) hcn) (fun w69 hH70 => ?_)
    refine ops_y hH70 rfl rfl (yv_move rfl) (ops_y hH70 rfl rfl (yv_extract rfl rfl) (ops_y hH70 rfl rfl (yv_extract rfl rfl) ?_))
    refine op_alloc (z := (.pointer none)) (us := [(.pointer none)]) (fun _ => by kernel_rfl) rfl rfl hH70 (fun b71 w72 hH73 => ?_)
    refine op_store (n := 0) (j := 0) (us := [(.pointer none)]) rfl rfl hH73 rfl T.sz73 rfl rfl rfl (by rfl) (fun w74 hH75 => ?_)
    refine ops_y hH75 rfl rfl (yv_assign rfl) (ops_nil (thn_n (seq (seq (region (ops_y hH75 rfl rfl (yv_move rfl) ?_))))))
    refine ops_y hH75 rfl rfl (yv_neq rfl rfl) ?_
    refine ops_nil (thn_n ?_)
    have hc76 : ¬ ((S.check l 0) = 0) := hcn
    refine cond_t rfl (not_decide_t hc76) ?_
    refine seq (region (ops_y hH75 rfl rfl (yv_move rfl) (ops_y hH75 rfl rfl (yv_assign rfl) (ops_y hH75 rfl rfl (yv_assign rfl) (ops_nil (thn_n (ret (thn_r ?_))))))))
    have hH77 := (hH75.sub (List.Sublist.cons _ (List.Sublist.refl _)))
    refine fin hH77 (fun w' hf => (res2 rfl (show RV _ _ _ (.tmp 2) _ from rfl) (show RV _ _ _ (.tmp 3) _ from rfl))) (fun w' hf => ?_)
    first | (rw [S.sp1 hcn]; exact ⟨_, rfl, own_nil⟩) | (rw [S.sp2 hc0, ← hmid.done hdn]; exact ⟨_, rfl, Heap.own hf (n := 0) rfl⟩)

end Go.Fip

set_option linter.unusedVariables false
set_option linter.unusedSimpArgs false
set_option linter.unusedSectionVars false
set_option linter.unnecessarySimpa false
namespace Go.Fip
open Go.Proofs Go.RowKit

theorem c32 {v : Value} {l : List Int} {w : World} (h0 : Rd encI 1 v l w) (hn : l.length ≤ 1000000)  :
    Fn Try.prog 32 [v].toArray w (fun u w => ∃ q, u = .tuple #[q, .int .i64 (S.stepsR l).2] ∧ Own 3 1 encI q (S.stepsR l).1 w) := by
  refine fn_of' (args := [v]) Try.func32 rfl (ent Try.func32 (by kernel_rfl) rfl) rfl rfl (fun hH => ?_)
  refine seq (region (ops_y hH rfl rfl (yv_assign rfl) (ops_y hH rfl rfl (yv_assign rfl) (ops_nil (thn_n (seq (seq ?_)))))))
  by_cases hc1 : S.check l 0 = 0
  · skip
    have hc0 : S.check l 0 = 0 := ‹_›
    have hj : S.J l := S.check_iff.1 hc0
    have hl1 := hj.1
    have hl10 := hj.2.1
    refine region (ops_y hH rfl rfl (yv_move rfl) ?_)
    refine op_fnV rfl rfl rfl hH (c24 (h0.now hH (n := 0) rfl) (by omega)) (fun w2 hH3 => ?_)
    refine ops_y hH3 rfl rfl (yv_neq rfl rfl) ?_
    refine ops_nil (thn_n ?_)
    have hc4 : ¬ (¬ ((S.check l 0) = 0)) := fun h => h hc0
    refine cond_f rfl (not_decide_f hc4) ?_
    refine skip (thn_n (seq (region (ops_y hH3 rfl rfl (yv_move rfl) ?_))))
    refine op_fn rfl rfl rfl hH3 (c60 (h0.now hH3 (n := 0) rfl) (by omega)) (fun u7 w5 lo8 hi9 hH6 hv10 => ?_)
    have hH11 := Heap.toOw hH6 (n := 0) rfl
    refine ops_y hH11 rfl rfl (yv_assign rfl) (ops_nil (thn_n (seq (region (ops_y hH11 rfl rfl (yv_assign rfl) (ops_nil (thn_n (seq (seq ?_)))))))))
    refine region (ops_y hH11 rfl rfl (yv_assign rfl) (ops_nil (thn_n (block ?_))))
    have hH12 := ow_nil (enc := encI) 3 1 hH11
    refine loop (S := List Int × List Int × Nat × Value × Nat × Nat × Value × Nat × Nat) (fun (m, ks, i, v_4, lo_4, hi_4, v_5, lo_5, hi_5) => [(6, (.int .i64 (i : Int))), (4, v_4), (5, v_5), (2, (.slice none 0 0)), (3, (.int .i64 0))]) (fun (m, ks, i, v_4, lo_4, hi_4, v_5, lo_5, hi_5) w1 => Heap [ow lo_5 hi_5 3 1 encI v_5 ks, ow lo_4 hi_4 3 1 encI v_4 m, base w] w1 ∧ S.Mid l m ks ∧ i ≤ m.length ∧ ∀ j : Nat, j < i → ¬ nth m ((j : Int) + 1) < nth m (j : Int)) (fun (m, ks, i, v_4, lo_4, hi_4, v_5, lo_5, hi_5) => (S.inv m * 11 + (10 - i))) (l, [], 0, u7, lo8, hi9, (.slice none 0 0), w5.heap.size, w5.heap.size) (Sub.cons rfl (Sub.cons rfl (Sub.cons rfl (Sub.cons rfl (Sub.cons rfl (Sub.nil _)))))) ?_ ?_
    · exact ⟨(Heap.recast (n := 0) hH12 rfl (rfl)), S.Mid.start hj, Nat.zero_le _, S.all_zero⟩
    · rintro ⟨m, ks, i, v_4, lo_4, hi_4, v_5, lo_5, hi_5⟩ w13 ⟨hH14, hmid, hil, hall⟩
      show Holds _ _ _ _ _ [(6, (.int .i64 (i : Int))), (4, v_4), (5, v_5), (2, (.slice none 0 0)), (3, (.int .i64 0))] _ _
      have hjm := hmid.1
      have hml := hmid.2.1
      have hm10 := hjm.2.1
      have hm1 := hjm.1
      have hkl := hmid.2.2.2
      refine seq (seq (region (ops_y hH14 rfl rfl (yv_move rfl) ?_)))
      refine ops_y hH14 rfl rfl (yv_add rfl rfl (by omega)) ?_
      refine ops_y hH14 rfl rfl (yv_move rfl) ?_
      refine ops_y hH14 rfl rfl (yv_len T.sl22 rfl (Heap.rdw T.el22_encI hH14 (n := 1) rfl).is) ?_
      refine ops_y hH14 rfl rfl (yv_lss rfl rfl) ?_
      refine ops_nil (thn_n ?_)
      by_cases hc15 : ((i : Int) + 1) < (m.length : Int)
      · skip
        refine cond_t rfl (decide_eq_true hc15) ?_
        refine skip (thn_n (seq (block (seq ?_))))
        refine region_draw (fun w' => Heap [ow lo_5 hi_5 3 1 encI v_5 ks, ow lo_4 hi_4 3 1 encI v_4 m, base w] w') T.mixed (fun w16 hr17 => ?_)
        have hH18 := hH14.redrawn hr17
        refine any_takes [0, 1, 2, 3, 4, 5, 6, 7, 8, 9] (by kernel_rfl) hH18 _ _ _ (by kernel_rfl) ?_
        refine qs_y rfl rfl (yv_move rfl) (qs_y rfl rfl (yv_move rfl) ?_)
        refine qs_y rfl rfl (yv_index T.sl22 rfl rfl (Heap.rdw T.el22_encI hH18 (n := 1) rfl).is (by omega)) ?_
        refine qs_y rfl rfl (yv_load T.one3 rfl (fun _ hw => Rd.at (Heap.rdw T.el22_encI hw (n := 1) rfl) (i := (i : Int)) (by omega) (j := 0) rfl)) ?_
        refine qs_y rfl rfl (yv_move rfl) (qs_y rfl rfl (yv_move rfl) ?_)
        refine qs_y rfl rfl (yv_add rfl rfl (by omega)) ?_
        refine qs_y rfl rfl (yv_index T.sl22 rfl rfl (Heap.rdw T.el22_encI hH18 (n := 1) rfl).is (by omega)) ?_
        refine qs_y rfl rfl (yv_load T.one3 rfl (fun _ hw => Rd.at (Heap.rdw T.el22_encI hw (n := 1) rfl) (i := (i : Int) + 1) (by omega) (j := 0) rfl)) ?_
        refine qs_y rfl rfl (yv_gtr rfl rfl) ?_
        refine qs_nil ?_
        refine any_done (by kernel_rfl) ?_
        refine thn_n ?_
        by_cases hc19 : (nth m ((i : Int) + 1)) < (nth m (i : Int))
        · skip
          have hdk : S.downAt m = some i := S.downAt_some.2 ⟨by omega, by omega, hall⟩
          have hkl2 := hmid.lt hj hdk
          have hsl : (m.set ((i : Int)).toNat (nth m ((i : Int) + 1))).length = m.length := List.length_set
          refine cond_t rfl (decide_eq_true hc19) ?_
          refine seq (region (ops_y hH18 rfl rfl (yv_move rfl) (ops_y hH18 rfl rfl (yv_move rfl) ?_)))
          refine op_lit (us := [(0, (.int .i64 (i : Int)))]) T.el22_encI [(i : Int)] rfl (by decide) rfl (fun a ha => by simp [ha.ev (show ev _ (.tmp 32) = some _ from rfl)]) (fun w => by kernel_rfl) hH18 (fun u20 lo22 hi23 w21 hH24 => ?_)
          refine op_append (n := 1) T.el22_encI rfl rfl rfl hH24 rfl (Heap.rdw T.el22_encI hH24 (n := 0) rfl) (by first | omega | (simp only [List.length_append, List.length_cons, List.length_nil]; omega)) (fun u25 lo27 hi28 w26 hH29 => ?_)
          refine ops_y hH29 rfl rfl (yv_assign rfl) (ops_nil (thn_n (seq ?_)))
          refine region_drawY (fun w' => Heap [ow lo22 hi23 3 1 encI u20 [(i : Int)], ow lo27 hi28 3 1 encI u25 (ks ++ [(i : Int)]), ow lo_4 hi_4 3 1 encI v_4 m, base w] w') [15, 17] T.mixed (fun w30 hr31 => ?_)
          have hH32 := hH29.redrawn hr31
          refine any_takesT [0, 1, 2, 3, 4, 5, 6, 7, 8, 10, 11, 12] (by kernel_rfl)  _ _ _ (by kernel_rfl) ?_
          refine qs_y rfl rfl (yv_move rfl) (qs_y rfl rfl (yv_move rfl) (qs_y rfl rfl (yv_move rfl) (qs_y rfl rfl (yv_move rfl) ?_)))
          refine qs_y rfl rfl (yv_add rfl rfl (by omega)) ?_
          refine qs_y rfl rfl (yv_move rfl) (qs_y rfl rfl (yv_move rfl) ?_)
          refine qs_y rfl rfl (yv_add rfl rfl (by omega)) ?_
          refine qs_y rfl rfl (yv_index T.sl22 rfl rfl (Heap.rdw T.el22_encI hH32 (n := 2) rfl).is (by omega)) ?_
          refine qs_y rfl rfl (yv_move rfl) (qs_y rfl rfl (yv_move rfl) ?_)
          refine qs_y rfl rfl (yv_index T.sl22 rfl rfl (Heap.rdw T.el22_encI hH32 (n := 2) rfl).is (by omega)) ?_
          refine qs_nil ?_
          refine any_takesY [9, 13] (by kernel_rfl) hH32 _ _ _ (by kernel_rfl) ?_
          refine qs_y rfl rfl (yv_load T.one3 rfl (fun _ hw => Rd.at (Heap.rdw T.el22_encI hw (n := 2) rfl) (i := (i : Int) + 1) (by omega) (j := 0) rfl)) ?_
          refine qs_y rfl rfl (yv_load T.one3 rfl (fun _ hw => Rd.at (Heap.rdw T.el22_encI hw (n := 2) rfl) (i := (i : Int)) (by omega) (j := 0) rfl)) ?_
          refine qs_nil ?_
          refine any_takesT [14] (by kernel_rfl)  _ _ _ (by kernel_rfl) ?_
          refine qs_y rfl rfl (yv_index T.sl22 rfl rfl (Heap.rdw T.el22_encI hH32 (n := 2) rfl).is (by omega)) ?_
          refine qs_nil ?_
          refine any_allY [15] (by kernel_rfl) rfl ?_
          refine ⟨⟨_, rfl, ?_⟩, trivial⟩
          · skip
            refine op_setE (n := 2) (i := (i : Int)) (k := 0) (us := [(.int .i64 (nth m ((i : Int) + 1)))]) (z := nth m ((i : Int) + 1)) T.el22_encI rfl rfl hH32 rfl (by omega) T.sz3 rfl rfl rfl (Nat.le_of_ble_eq_true rfl) (fun w33 hH34 => ?_)
            refine ops_nil ?_
            refine ⟨(fun h => by cases h), ?_⟩
            refine any_takesT [16] (by kernel_rfl)  _ _ _ (by kernel_rfl) ?_
            refine qs_y rfl rfl (yv_index T.sl22 rfl rfl (Heap.rdw T.el22_encI hH34 (n := 2) rfl).is (by omega)) ?_
            refine qs_nil ?_
            refine any_allY [17] (by kernel_rfl) rfl ?_
            refine ⟨⟨_, rfl, ?_⟩, trivial⟩
            · skip
              refine op_setE (n := 2) (i := (i : Int) + 1) (k := 0) (us := [(.int .i64 (nth m (i : Int)))]) (z := nth m (i : Int)) T.el22_encI rfl rfl hH34 rfl (by omega) T.sz3 rfl rfl rfl (Nat.le_of_ble_eq_true rfl) (fun w35 hH36 => ?_)
              refine ops_nil ?_
              refine ⟨(fun h => by cases h), ?_⟩
              refine any_doneY (by kernel_rfl) ?_
              refine thn_n (region (ops_y hH36 rfl rfl (yv_assign rfl) (ops_nil (blk_n (thn_n (region (ops_y hH36 rfl rfl (yv_move rfl) ?_)))))))
              refine ops_y hH36 rfl rfl (yv_add rfl rfl (by omega)) ?_
              refine ops_y hH36 rfl rfl (yv_assign rfl) (ops_nil ?_)
              have hH37 := (hH36.sub (List.Sublist.cons _ (List.Sublist.refl _)))
              refine lp_n ((S.swp m (i : Int) ((i : Int) + 1)), (ks ++ [(i : Int)]), 0, v_4, lo_4, hi_4, u25, lo27, hi28) (Sub.cons (congrArg (fun z => some (Value.int .i64 z)) (by omega)) (Sub.cons rfl (Sub.cons rfl (Sub.cons rfl (Sub.cons rfl (Sub.nil _)))))) ?_ ?_
              · exact ⟨hH37, hmid.next hj hdk, Nat.zero_le _, S.all_zero⟩
              · first | (have hq := hmid.inv hdk; dsimp only; omega) | (dsimp only; omega)
        · skip
          have hnd : ¬ nth m ((i : Int) + 1) < nth m (i : Int) := ‹_›
          refine cond_f rfl (decide_eq_false hc19) ?_
          refine skip (blk_n (thn_n (region (ops_y hH18 rfl rfl (yv_move rfl) ?_))))
          refine ops_y hH18 rfl rfl (yv_add rfl rfl (by omega)) ?_
          refine ops_y hH18 rfl rfl (yv_assign rfl) (ops_nil ?_)
          refine lp_n (m, ks, (i + 1), v_4, lo_4, hi_4, v_5, lo_5, hi_5) (Sub.cons (congrArg (fun z => some (Value.int .i64 z)) (by omega)) (Sub.cons rfl (Sub.cons rfl (Sub.cons rfl (Sub.cons rfl (Sub.nil _)))))) ?_ ?_
          · exact ⟨hH18, hmid, by omega, S.all_snoc hall hnd⟩
          · first | (have hq := hmid.inv hdk; dsimp only; omega) | (dsimp only; omega)
      · skip
        have hdn : S.downAt m = none := S.downAt_none.2 (fun j hj => hall j (by omega))
        refine cond_f rfl (decide_eq_false hc15) ?_
        refine exit (thn_x (lp_x (blk_here (thn_n (seq (region (ops_y hH14 rfl rfl (yv_move rfl) (ops_y hH14 rfl rfl (yv_assign rfl) (ops_y hH14 rfl rfl (yv_assign rfl) ?_)))))))))
        refine ops_nil (thn_n (ret ?_))
        have hH38 := (hH14.sub (List.Sublist.cons_cons _ (List.Sublist.cons _ (List.Sublist.refl _))))
        refine fin (hH38.front (n := 1) rfl) (fun w' hf => (res2 rfl (show RV _ _ _ (.tmp 2) _ from rfl) (show RV _ _ _ (.tmp 3) _ from rfl))) (fun w' hf => ?_)
        first | (rw [S.sp1 hcn]; exact ⟨_, rfl, own_nil⟩) | (rw [S.sp2 hc0, ← hmid.done hdn]; exact ⟨_, rfl, Heap.own hf (n := 0) rfl⟩)
  · skip
    have hcn : ¬ S.check l 0 = 0 := ‹_›
    refine region (ops_y hH rfl rfl (yv_move rfl) ?_)
    refine op_fnV rfl rfl rfl hH (c24 (h0.now hH (n := 0) rfl) (by omega)) (fun w39 hH40 => ?_)
    refine ops_y hH40 rfl rfl (yv_neq rfl rfl) ?_
    refine ops_nil (thn_n ?_)
    have hc41 : ¬ ((S.check l 0) = 0) := hcn
    refine cond_t rfl (not_decide_t hc41) ?_
    refine seq (region (ops_y hH40 rfl rfl (yv_move rfl) ?_))
    refine op_fnV rfl rfl rfl hH40 (c24 (h0.now hH40 (n := 0) rfl) (by omega)) (fun w42 hH43 => ?_)
    refine ops_y hH43 rfl rfl (yv_assign rfl) (ops_y hH43 rfl rfl (yv_assign rfl) (ops_nil (thn_n (ret (thn_r ?_)))))
    refine fin hH43 (fun w' hf => (res2 rfl (show RV _ _ _ (.tmp 2) _ from rfl) (show RV _ _ _ (.tmp 3) _ from rfl))) (fun w' hf => ?_)
    first | (rw [S.sp1 hcn]; exact ⟨_, rfl, own_nil⟩) | (rw [S.sp2 hc0, ← hmid.done hdn]; exact ⟨_, rfl, Heap.own hf (n := 0) rfl⟩)

end Go.Fip

set_option linter.unusedVariables false
set_option linter.unusedSimpArgs false
set_option linter.unusedSectionVars false
set_option linter.unnecessarySimpa false
namespace Go.Fip
open Go.Proofs Go.RowKit

theorem c84 {b : Nat} {v : Value} {l : List Int} {w : World} (hb : Bx b 89 [v] w) (h0 : Rd encI 1 v l w) (hj : S.J l)  :
    Fn Try.prog 84 [(.pointer (some ⟨b, 0, none⟩))].toArray w (fun u w => Own 70 2 encP u (S.exs l) w) := by
  refine fn_of' (args := [(.pointer (some ⟨b, 0, none⟩))]) Try.func84 rfl (ent Try.func84 (by kernel_rfl) rfl) rfl rfl (fun hH => ?_)
  have hl10 := hj.2.1
  have hl1 := hj.1
  refine seq (region (ops_y hH rfl rfl (yv_assign rfl) (ops_nil (thn_n (seq (region ?_))))))
  refine op_makeMap (fun n : Int => .agg #[.int .i64 n]) (fun n : Int => .int .i64 n) rfl hH (fun b1 w2 hH3 => ?_)
  refine ops_y hH3 rfl rfl (yv_assign rfl) (ops_nil (thn_n (seq (region (ops_y hH3 rfl rfl (yv_move rfl) ?_)))))
  refine ops_y hH3 rfl rfl (yv_nilck rfl) ?_
  refine ops_y hH3 rfl rfl (yv_field T.f89_0 rfl) ?_
  refine ops_y hH3 rfl rfl (yv_field T.f87_0 rfl) ?_
  refine ops_y hH3 rfl rfl (yv_load T.one22 rfl (fun _ hw => bx_cell (hb.now hw (n := 1) rfl) rfl)) ?_
  refine op_fn rfl rfl rfl hH3 (c112 (h0.now hH3 (n := 1) rfl) (by omega)) (fun u6 w4 lo7 hi8 hH5 hv9 => ?_)
  have hH10 := Heap.toOw hH5 (n := 0) rfl
  refine ops_y hH10 rfl rfl (yv_assign rfl) (ops_nil (thn_n (seq (seq (region (ops_y hH10 rfl rfl (yv_move rfl) ?_))))))
  refine ops_y hH10 rfl rfl (yv_len T.sl22 rfl (Heap.rdw T.el22_encI hH10 (n := 0) rfl).is) ?_
  refine ops_y hH10 rfl rfl (yv_move rfl) (ops_nil (thn_n (block ?_)))
  refine loop (S := Nat × S.Ml) (fun (k, M) => [(19, (.int .i64 (k : Int))), (2, (.slice none 0 0)), (3, (.map (some b1))), (4, u6), (17, u6), (18, (.int .i64 (l.length : Int)))]) (fun (k, M) w1 => Heap [ow lo7 hi8 3 1 encI u6 l, mp (fun n : Int => .agg #[.int .i64 n]) (fun n : Int => .int .i64 n) b1 M, base w] w1 ∧ k ≤ l.length ∧ ∀ j : Nat, j < k → find (nth l (j : Int)) M = some (j : Int)) (fun (k, M) => l.length - k) (0, []) (Sub.cons rfl (Sub.cons rfl (Sub.cons rfl (Sub.cons rfl (Sub.cons rfl (Sub.cons rfl (Sub.nil _))))))) ?_ ?_
  · exact ⟨hH10, by omega, S.all_zero⟩
  · rintro ⟨k, M⟩ w11 ⟨hH12, hk, hM⟩
    show Holds _ _ _ _ _ [(19, (.int .i64 (k : Int))), (2, (.slice none 0 0)), (3, (.map (some b1))), (4, u6), (17, u6), (18, (.int .i64 (l.length : Int)))] _ _
    refine seq (region ?_)
    refine ops_y hH12 rfl rfl (yv_lss rfl rfl) ?_
    refine ops_nil (thn_n (seq ?_))
    by_cases hc13 : (k : Int) < (l.length : Int)
    · skip
      refine cond_t rfl (decide_eq_true hc13) ?_
      refine skip (thn_n (seq (block (seq (region (ops_y hH12 rfl rfl (yv_move rfl) ?_))))))
      refine ops_y hH12 rfl rfl (yv_index T.sl22 rfl rfl (Heap.rdw T.el22_encI hH12 (n := 0) rfl).is (by omega)) ?_
      refine ops_y hH12 rfl rfl (yv_load T.one3 rfl (fun _ hw => Rd.at (Heap.rdw T.el22_encI hw (n := 0) rfl) (i := (k : Int)) (by omega) (j := 0) rfl)) ?_
      refine ops_y hH12 rfl rfl (yv_assign rfl) (ops_y hH12 rfl rfl (yv_assign rfl) (ops_nil (thn_n (region (ops_y hH12 rfl rfl (yv_move rfl) (ops_y hH12 rfl rfl (yv_move rfl) ?_))))))
      refine ops_y hH12 rfl rfl (yv_build (v := (.agg #[(.int .i64 (nth l (k : Int)))])) (us := [(0, (.int .i64 (nth l (k : Int))))]) (fun a ha => by simp [ha.ev (show ev _ (.tmp 25) = some _ from rfl)]) (fun w => by kernel_rfl)) ?_
      refine ops_y hH12 rfl rfl (yv_move rfl) ?_
      refine op_update (n := 1) (k := nth l (k : Int)) (v := (k : Int)) T.m112 rfl rfl rfl hH12 rfl (fun w14 hH15 => ?_)
      refine ops_nil (blk_n (thn_n (region ?_)))
      refine ops_y hH15 rfl rfl (yv_add rfl rfl (by omega)) ?_
      refine ops_y hH15 rfl rfl (yv_move rfl) (ops_nil ?_)
      refine lp_n (k + 1, (upd (nth l (k : Int)) (k : Int) M)) (Sub.cons rfl (Sub.cons rfl (Sub.cons rfl (Sub.cons rfl (Sub.cons rfl (Sub.cons rfl (Sub.nil _))))))) ?_ ?_
      · exact ⟨hH15, by omega, hj.li_add (by omega) hM⟩
      · first | (dsimp only; omega) | (show _ < _; omega)
    · skip
      have hMl : S.Li l M 0 := fun j _ hjl => hM j (by omega)
      refine cond_f rfl (decide_eq_false hc13) ?_
      refine exit (thn_x (lp_x (blk_here (thn_n (seq (region (ops_y hH12 rfl rfl (yv_assign rfl) (ops_nil (thn_n ?_)))))))))
      refine seq (seq (region (ops_y hH12 rfl rfl (yv_move rfl) ?_)))
      refine ops_y hH12 rfl rfl (yv_len T.sl22 rfl (Heap.rdw T.el22_encI hH12 (n := 0) rfl).is) ?_
      refine ops_y hH12 rfl rfl (yv_move rfl) (ops_nil (thn_n (block ?_)))
      have hH16 := ow_nil (enc := encP) 70 2 hH12
      refine loop (S := List Int × List S.Pr × S.Ml × Nat × Value × Nat × Nat × Value × Nat × Nat) (fun (m, xs, M, i, v_4, lo_4, hi_4, v_7, lo_7, hi_7) => [(31, (.int .i64 (i : Int))), (4, v_4), (7, v_7), (2, (.slice none 0 0)), (3, (.map (some b1))), (30, (.int .i64 (l.length : Int)))]) (fun (m, xs, M, i, v_4, lo_4, hi_4, v_7, lo_7, hi_7) w1 => Heap [ow lo_7 hi_7 70 2 encP v_7 xs, ow lo_4 hi_4 3 1 encI v_4 m, mp (fun n : Int => .agg #[.int .i64 n]) (fun n : Int => .int .i64 n) b1 M, base w] w1 ∧ S.Xs l m xs i ∧ S.Li m M i ∧ i ≤ l.length) (fun (m, xs, M, i, v_4, lo_4, hi_4, v_7, lo_7, hi_7) => l.length - i) (l, [], M, 0, u6, lo7, hi8, (.slice none 0 0), w11.heap.size, w11.heap.size) (Sub.cons rfl (Sub.cons rfl (Sub.cons rfl (Sub.cons rfl (Sub.cons rfl (Sub.cons rfl (Sub.nil _))))))) ?_ ?_
      · exact ⟨(Heap.recast (n := 0) hH16 rfl (rfl)), S.Xs.start hj, hMl, by omega⟩
      · rintro ⟨m, xs, M, i, v_4, lo_4, hi_4, v_7, lo_7, hi_7⟩ w17 ⟨hH18, hX, hL, hil⟩
        show Holds _ _ _ _ _ [(31, (.int .i64 (i : Int))), (4, v_4), (7, v_7), (2, (.slice none 0 0)), (3, (.map (some b1))), (30, (.int .i64 (l.length : Int)))] _ _
        have hjm := hX.1
        have hml := hX.2.1
        have hm10 := hjm.2.1
        have hxl := hX.2.2.2.1
        refine seq (region ?_)
        refine ops_y hH18 rfl rfl (yv_lss rfl rfl) ?_
        refine ops_nil (thn_n (seq ?_))
        by_cases hc19 : (i : Int) < (l.length : Int)
        · skip
          refine cond_t rfl (decide_eq_true hc19) ?_
          refine skip (thn_n (seq (block (seq (region (ops_y hH18 rfl rfl (yv_move rfl) (ops_y hH18 rfl rfl (yv_assign rfl) (ops_nil (thn_n ?_)))))))))
          refine seq (block ?_)
          refine loop (S := List Int × List S.Pr × S.Ml × Value × Nat × Nat × Value × Nat × Nat) (fun (m3, xs3, M3, v_4, lo_4, hi_4, v_7, lo_7, hi_7) => [(4, v_4), (7, v_7), (2, (.slice none 0 0)), (3, (.map (some b1))), (8, (.int .i64 (i : Int))), (30, (.int .i64 (l.length : Int))), (31, (.int .i64 (i : Int)))]) (fun (m3, xs3, M3, v_4, lo_4, hi_4, v_7, lo_7, hi_7) w1 => Heap [ow lo_7 hi_7 70 2 encP v_7 xs3, ow lo_4 hi_4 3 1 encI v_4 m3, mp (fun n : Int => .agg #[.int .i64 n]) (fun n : Int => .int .i64 n) b1 M3, base w] w1 ∧ S.Xs l m3 xs3 i ∧ S.Li m3 M3 i) (fun (m3, xs3, M3, v_4, lo_4, hi_4, v_7, lo_7, hi_7) => m3.length - S.cyc m3) (m, xs, M, v_4, lo_4, hi_4, v_7, lo_7, hi_7) (Sub.cons rfl (Sub.cons rfl (Sub.cons rfl (Sub.cons rfl (Sub.cons rfl (Sub.cons rfl (Sub.cons rfl (Sub.nil _)))))))) ?_ ?_
          · exact ⟨hH18, hX, hL⟩
          · rintro ⟨m3, xs3, M3, v_4, lo_4, hi_4, v_7, lo_7, hi_7⟩ w20 ⟨hH21, hX3, hL3⟩
            show Holds _ _ _ _ _ [(4, v_4), (7, v_7), (2, (.slice none 0 0)), (3, (.map (some b1))), (8, (.int .i64 (i : Int))), (30, (.int .i64 (l.length : Int))), (31, (.int .i64 (i : Int)))] _ _
            have hjm := hX3.1
            have hml := hX3.2.1
            have hm10 := hjm.2.1
            have hxl := hX3.2.2.2.1
            have hi3 : i < m3.length := by omega
            have hlie := hX3.lies hL3 hi3
            refine seq (seq (region (ops_y hH21 rfl rfl (yv_move rfl) (ops_y hH21 rfl rfl (yv_move rfl) ?_))))
            refine ops_y hH21 rfl rfl (yv_build (v := (.agg #[(.int .i64 (i : Int))])) (us := [(0, (.int .i64 (i : Int)))]) (fun a ha => by simp [ha.ev (show ev _ (.tmp 35) = some _ from rfl)]) (fun w => by kernel_rfl)) ?_
            refine ops_y hH21 rfl rfl (yv_lookup (k := (i : Int)) T.m112 rfl rfl (fun _ hw => (Heap.mapw hw (n := 2) rfl))) ?_
            refine ops_y hH21 rfl rfl (yv_move rfl) ?_
            refine ops_y hH21 rfl rfl (yv_neq rfl rfl) ?_
            refine ops_nil (thn_n ?_)
            by_cases hc22 : ((find (i : Int) M3).getD 0) = (i : Int)
            · skip
              have hfx : nth m3 (i : Int) = (i : Int) := hlie.1 (by omega)
              refine cond_f rfl (not_decide_n hc22) ?_
              refine exit (thn_x (lp_x (blk_here (thn_n (region (ops_y hH21 rfl rfl (yv_move rfl) (ops_y hH21 rfl rfl (yv_move rfl) ?_)))))))
              refine ops_y hH21 rfl rfl (yv_build (v := (.agg #[(.int .i64 (i : Int))])) (us := [(0, (.int .i64 (i : Int)))]) (fun a ha => by simp [ha.ev (show ev _ (.tmp 76) = some _ from rfl)]) (fun w => by kernel_rfl)) ?_
              refine op_delete (n := 2) (k := (i : Int)) T.m112 rfl rfl hH21 rfl (fun w23 hH24 => ?_)
              refine ops_nil (blk_n (thn_n (region ?_)))
              refine ops_y hH24 rfl rfl (yv_add rfl rfl (by omega)) ?_
              refine ops_y hH24 rfl rfl (yv_move rfl) (ops_nil ?_)
              refine lp_n (m3, xs3, (del (i : Int) M3), (i + 1), v_4, lo_4, hi_4, v_7, lo_7, hi_7) (Sub.cons rfl (Sub.cons rfl (Sub.cons rfl (Sub.cons rfl (Sub.cons rfl (Sub.cons rfl (Sub.nil _))))))) ?_ ?_
              · exact ⟨hH24, hX3.next hfx, hX3.li_del hL3 (by omega) hfx, by omega⟩
              · first | (dsimp only; omega) | (show _ < _; omega)
            · skip
              have hwr : ¬ nth m3 (i : Int) = (i : Int) := fun e => absurd (hlie.2 e) ‹_›
              have hxl3 := hX3.lt hj hi3 hwr
              have hvi := hjm.nth (x := (i : Int)) (by omega) (by omega)
              have hsl : (m3.set ((i : Int)).toNat (nth m3 (nth m3 (i : Int)))).length = m3.length := List.length_set
              have hsl2 : ((m3.set ((i : Int)).toNat (nth m3 (nth m3 (i : Int)))).set (nth m3 (i : Int)).toNat (nth m3 (i : Int))).length = m3.length := (List.length_set).trans hsl
              refine cond_t rfl (not_decide_t hc22) ?_
              refine skip (thn_n (block (seq (region (ops_y hH21 rfl rfl (yv_move rfl) (ops_y hH21 rfl rfl (yv_move rfl) ?_))))))
              refine ops_y hH21 rfl rfl (yv_index T.sl22 rfl rfl (Heap.rdw T.el22_encI hH21 (n := 1) rfl).is (by omega)) ?_
              refine ops_y hH21 rfl rfl (yv_load T.one3 rfl (fun _ hw => Rd.at (Heap.rdw T.el22_encI hw (n := 1) rfl) (i := (i : Int)) (by omega) (j := 0) rfl)) ?_
              refine ops_y hH21 rfl rfl (yv_assign rfl) (ops_nil (thn_n (seq (region (ops_y hH21 rfl rfl (yv_move rfl) (ops_y hH21 rfl rfl (yv_move rfl) (ops_y hH21 rfl rfl (yv_move rfl) ?_)))))))
              refine ops_y hH21 rfl rfl (yv_build (v := (.agg #[(.int .i64 (i : Int)), (.int .i64 (nth m3 (i : Int)))])) (us := [(0, (.int .i64 (i : Int))), (1, (.int .i64 (nth m3 (i : Int))))]) (fun a ha => by simp [ha.ev (show ev _ (.tmp 45) = some _ from rfl), ha.ev (show ev _ (.tmp 46) = some _ from rfl)]) (fun w => by kernel_rfl)) ?_
              refine op_lit (us := [(0, (.agg #[(.int .i64 (i : Int)), (.int .i64 (nth m3 (i : Int)))]))]) T.el29_encP [((i : Int), nth m3 (i : Int))] rfl (by decide) rfl (fun a ha => by simp [ha.ev (show ev _ (.tmp 47) = some _ from rfl)]) (fun w => by kernel_rfl) hH21 (fun u25 lo27 hi28 w26 hH29 => ?_)
              refine op_append (n := 1) T.el29_encP rfl rfl rfl hH29 rfl (Heap.rdw T.el29_encP hH29 (n := 0) rfl) (by first | omega | (simp only [List.length_append, List.length_cons, List.length_nil]; omega)) (fun u30 lo32 hi33 w31 hH34 => ?_)
              refine ops_y hH34 rfl rfl (yv_assign rfl) (ops_nil (thn_n (seq ?_)))
              refine region_drawY (fun w' => Heap [ow lo27 hi28 70 2 encP u25 [((i : Int), nth m3 (i : Int))], ow lo32 hi33 70 2 encP u30 (xs3 ++ [((i : Int), nth m3 (i : Int))]), ow lo_4 hi_4 3 1 encI v_4 m3, mp (fun n : Int => .agg #[.int .i64 n]) (fun n : Int => .int .i64 n) b1 M3, base w] w') [13, 15] T.mixed (fun w35 hr36 => ?_)
              have hH37 := hH34.redrawn hr36
              refine any_takesT [0, 1, 2, 3, 4, 5, 6, 8, 9, 10] (by kernel_rfl)  _ _ _ (by kernel_rfl) ?_
              refine qs_y rfl rfl (yv_move rfl) (qs_y rfl rfl (yv_move rfl) (qs_y rfl rfl (yv_move rfl) (qs_y rfl rfl (yv_move rfl) (qs_y rfl rfl (yv_move rfl) (qs_y rfl rfl (yv_move rfl) ?_)))))
              refine qs_y rfl rfl (yv_index T.sl22 rfl rfl (Heap.rdw T.el22_encI hH37 (n := 2) rfl).is (by omega)) ?_
              refine qs_y rfl rfl (yv_move rfl) (qs_y rfl rfl (yv_move rfl) ?_)
              refine qs_y rfl rfl (yv_index T.sl22 rfl rfl (Heap.rdw T.el22_encI hH37 (n := 2) rfl).is (by omega)) ?_
              refine qs_nil ?_
              refine any_takesY [7, 11] (by kernel_rfl) hH37 _ _ _ (by kernel_rfl) ?_
              refine qs_y rfl rfl (yv_load T.one3 rfl (fun _ hw => Rd.at (Heap.rdw T.el22_encI hw (n := 2) rfl) (i := nth m3 (i : Int)) (by omega) (j := 0) rfl)) ?_
              refine qs_y rfl rfl (yv_load T.one3 rfl (fun _ hw => Rd.at (Heap.rdw T.el22_encI hw (n := 2) rfl) (i := (i : Int)) (by omega) (j := 0) rfl)) ?_
              refine qs_nil ?_
              refine any_takesT [12] (by kernel_rfl)  _ _ _ (by kernel_rfl) ?_
              refine qs_y rfl rfl (yv_index T.sl22 rfl rfl (Heap.rdw T.el22_encI hH37 (n := 2) rfl).is (by omega)) ?_
              refine qs_nil ?_
              refine any_allY [13] (by kernel_rfl) rfl ?_
              refine ⟨⟨_, rfl, ?_⟩, trivial⟩
              · skip
                refine op_setE (n := 2) (i := (i : Int)) (k := 0) (us := [(.int .i64 (nth m3 (nth m3 (i : Int))))]) (z := nth m3 (nth m3 (i : Int))) T.el22_encI rfl rfl hH37 rfl (by omega) T.sz3 rfl rfl rfl (Nat.le_of_ble_eq_true rfl) (fun w38 hH39 => ?_)
                refine ops_nil ?_
                refine ⟨(fun h => by cases h), ?_⟩
                refine any_takesT [14] (by kernel_rfl)  _ _ _ (by kernel_rfl) ?_
                refine qs_y rfl rfl (yv_index T.sl22 rfl rfl (Heap.rdw T.el22_encI hH39 (n := 2) rfl).is (by omega)) ?_
                refine qs_nil ?_
                refine any_allY [15] (by kernel_rfl) rfl ?_
                refine ⟨⟨_, rfl, ?_⟩, trivial⟩
                · skip
                  refine op_setE (n := 2) (i := nth m3 (i : Int)) (k := 0) (us := [(.int .i64 (nth m3 (i : Int)))]) (z := nth m3 (i : Int)) T.el22_encI rfl rfl hH39 rfl (by omega) T.sz3 rfl rfl rfl (Nat.le_of_ble_eq_true rfl) (fun w40 hH41 => ?_)
                  refine ops_nil ?_
                  refine ⟨(fun h => by cases h), ?_⟩
                  refine any_doneY (by kernel_rfl) ?_
                  refine thn_n (seq (region (ops_y hH41 rfl rfl (yv_move rfl) (ops_y hH41 rfl rfl (yv_move rfl) ?_))))
                  refine ops_y hH41 rfl rfl (yv_build (v := (.agg #[(.int .i64 (nth m3 (i : Int)))])) (us := [(0, (.int .i64 (nth m3 (i : Int))))]) (fun a ha => by simp [ha.ev (show ev _ (.tmp 65) = some _ from rfl)]) (fun w => by kernel_rfl)) ?_
                  refine ops_y hH41 rfl rfl (yv_move rfl) ?_
                  refine op_update (n := 3) (k := nth m3 (i : Int)) (v := nth m3 (i : Int)) T.m112 rfl rfl rfl hH41 rfl (fun w42 hH43 => ?_)
                  refine ops_nil (thn_n (region (ops_y hH43 rfl rfl (yv_move rfl) (ops_y hH43 rfl rfl (yv_move rfl) (ops_y hH43 rfl rfl (yv_move rfl) ?_)))))
                  refine ops_y hH43 rfl rfl (yv_index T.sl22 rfl rfl (Heap.rdw T.el22_encI hH43 (n := 2) rfl).is (by omega)) ?_
                  refine ops_y hH43 rfl rfl (yv_load T.one3 rfl (fun _ hw => Rd.at (Heap.rdw T.el22_encI hw (n := 2) rfl) (i := (i : Int)) (by omega) (j := 0) rfl)) ?_
                  refine ops_y hH43 rfl rfl (yv_build (v := (.agg #[(.int .i64 (nth ((m3.set (i : Int).toNat (nth m3 (nth m3 (i : Int)))).set (nth m3 (i : Int)).toNat (nth m3 (i : Int))) (i : Int)))])) (us := [(0, (.int .i64 (nth ((m3.set (i : Int).toNat (nth m3 (nth m3 (i : Int)))).set (nth m3 (i : Int)).toNat (nth m3 (i : Int))) (i : Int))))]) (fun a ha => by simp [ha.ev (show ev _ (.tmp 72) = some _ from rfl)]) (fun w => by kernel_rfl)) ?_
                  refine ops_y hH43 rfl rfl (yv_move rfl) ?_
                  refine op_update (n := 3) (k := nth ((m3.set (i : Int).toNat (nth m3 (nth m3 (i : Int)))).set (nth m3 (i : Int)).toNat (nth m3 (i : Int))) (i : Int)) (v := (i : Int)) T.m112 rfl rfl rfl hH43 rfl (fun w44 hH45 => ?_)
                  refine ops_nil (blk_n ?_)
                  have hH46 := (hH45.sub (List.Sublist.cons _ (List.Sublist.refl _)))
                  refine lp_n ((S.swp m3 (i : Int) (nth m3 (i : Int))), (xs3 ++ [((i : Int), nth m3 (i : Int))]), (upd (nth ((m3.set (i : Int).toNat (nth m3 (nth m3 (i : Int)))).set (nth m3 (i : Int)).toNat (nth m3 (i : Int))) (i : Int)) (i : Int) (upd (nth m3 (i : Int)) (nth m3 (i : Int)) M3)), v_4, lo_4, hi_4, u30, lo32, hi33) (Sub.cons rfl (Sub.cons rfl (Sub.cons rfl (Sub.cons rfl (Sub.cons rfl (Sub.cons rfl (Sub.cons rfl (Sub.nil _)))))))) ?_ ?_
                  · exact ⟨(Heap.recast (n := 1) hH46 rfl (rfl)), hX3.step hj (by omega) hwr, hX3.li_step hL3 (by omega) hwr⟩
                  · (have hq := hX3.dec (by omega) hwr; have hq2 := S.swp_length (l := m3) (a := (i : Int)) (b := nth m3 (i : Int)); dsimp only; omega)
        · skip
          refine cond_f rfl (decide_eq_false hc19) ?_
          refine exit (thn_x (lp_x (blk_here (thn_n (seq (region (ops_y hH18 rfl rfl (yv_move rfl) (ops_y hH18 rfl rfl (yv_assign rfl) (ops_nil ?_)))))))))
          refine thn_n (ret ?_)
          have hH47 := (hH18.sub (List.Sublist.cons_cons _ (List.Sublist.cons _ (List.Sublist.cons _ (List.Sublist.refl _)))))
          refine fin (hH47.front (n := 1) rfl) (fun w' hf => (res1 rfl (show RV _ _ _ (.tmp 2) _ from rfl))) (fun w' hf => ?_)
          have hk2 : m.length ≤ i := by omega
          rw [← hX.done hk2]; exact Heap.own hf (n := 0) rfl

theorem c29 {v : Value} {l : List Int} {w : World} (h0 : Rd encI 1 v l w) (hn : l.length ≤ 1000000)  :
    Fn Try.prog 29 [v].toArray w (fun u w => ∃ q, u = .tuple #[q, .int .i64 (S.exsR l).2] ∧ Own 70 2 encP q (S.exsR l).1 w) := by
  refine fn_of' (args := [v]) Try.func29 rfl (ent Try.func29 (by kernel_rfl) rfl) rfl rfl (fun hH => ?_)
  refine seq (region (ops_y hH rfl rfl (yv_assign rfl) (ops_y hH rfl rfl (yv_assign rfl) (ops_nil (thn_n (seq ?_))))))
  by_cases hc1 : S.check l 0 = 0
  · skip
    have hc0 : S.check l 0 = 0 := ‹_›
    have hj : S.J l := S.check_iff.1 hc0
    have hl1 := hj.1
    have hl10 := hj.2.1
    refine region (ops_y hH rfl rfl (yv_move rfl) ?_)
    refine op_fn rfl rfl rfl hH (c72 (h0.now hH (n := 0) rfl) (by omega) hj) (fun u4 w2 lo5 hi6 hH3 hv7 => ?_)
    obtain ⟨b8, r9, hu, hb10⟩ := hv7
    subst hu
    obtain ⟨g11, hH12⟩ := Heap.toBench hH3 (n := 0) rfl (fun w' h => by obtain ⟨b1, v1, e, h⟩ := h; cases e; exact ⟨v1, h⟩) hb10 (by omega)
    refine ops_y hH12 rfl rfl (yv_move rfl) (ops_y hH12 rfl rfl (yv_extract rfl rfl) (ops_y hH12 rfl rfl (yv_extract rfl rfl) (ops_y hH12 rfl rfl (yv_assign rfl) (ops_y hH12 rfl rfl (yv_assign rfl) (ops_nil (thn_n (seq (seq (region ?_)))))))))
    refine ops_y hH12 rfl rfl (yv_move rfl) ?_
    refine ops_y hH12 rfl rfl (yv_neq rfl rfl) ?_
    refine ops_nil (thn_n ?_)
    refine cond_f rfl rfl ?_
    refine skip (thn_n (seq (region (ops_y hH12 rfl rfl (yv_move rfl) ?_))))
    refine op_fn rfl rfl rfl hH12 (c84 (Heap.bxw hH12 (n := 1) rfl) (Heap.rdw T.el22_encI hH12 (n := 0) rfl) hj) (fun u15 w13 lo16 hi17 hH14 hv18 => ?_)
    have hH19 := Heap.toOw hH14 (n := 0) rfl
    refine ops_y hH19 rfl rfl (yv_assign rfl) (ops_y hH19 rfl rfl (yv_assign rfl) (ops_nil (thn_n (ret ?_))))
    have hH20 := (hH19.sub (List.Sublist.cons_cons _ (List.Sublist.cons _ (List.Sublist.cons _ (List.Sublist.refl _)))))
    refine fin (hH20.front (n := 1) rfl) (fun w' hf => (res2 rfl (show RV _ _ _ (.tmp 2) _ from rfl) (show RV _ _ _ (.tmp 3) _ from rfl))) (fun w' hf => ?_)
    first | (rw [S.ex1 hcn]; exact ⟨_, rfl, own_nil⟩) | (rw [S.ex2 hc0]; exact ⟨_, rfl, Heap.own hf (n := 0) rfl⟩)
  · skip
    have hcn : ¬ S.check l 0 = 0 := ‹_›
    refine region (ops_y hH rfl rfl (yv_move rfl) ?_)
    refine op_fnV rfl rfl rfl hH (c72n (h0.now hH (n := 0) rfl) (by omega) hcn) (fun w21 hH22 => ?_)
    refine ops_y hH22 rfl rfl (yv_move rfl) (ops_y hH22 rfl rfl (yv_extract rfl rfl) (ops_y hH22 rfl rfl (yv_extract rfl rfl) (ops_y hH22 rfl rfl (yv_assign rfl) (ops_y hH22 rfl rfl (yv_assign rfl) (ops_nil (thn_n (seq (seq (region ?_)))))))))
    refine ops_y hH22 rfl rfl (yv_move rfl) ?_
    refine ops_y hH22 rfl rfl (yv_neq rfl rfl) ?_
    refine ops_nil (thn_n ?_)
    have hc23 : ¬ ((S.check l 0) = 0) := hcn
    refine cond_t rfl (not_decide_t hc23) ?_
    refine seq (region (ops_y hH22 rfl rfl (yv_move rfl) (ops_y hH22 rfl rfl (yv_assign rfl) (ops_y hH22 rfl rfl (yv_assign rfl) (ops_nil (thn_n (ret (thn_r ?_))))))))
    refine fin hH22 (fun w' hf => (res2 rfl (show RV _ _ _ (.tmp 2) _ from rfl) (show RV _ _ _ (.tmp 3) _ from rfl))) (fun w' hf => ?_)
    first | (rw [S.ex1 hcn]; exact ⟨_, rfl, own_nil⟩) | (rw [S.ex2 hc0]; exact ⟨_, rfl, Heap.own hf (n := 0) rfl⟩)

theorem c30 {v : Value} {l : List Int} {w : World} (h0 : Rd encI 1 v l w) (hn : l.length ≤ 1000000)  :
    Fn Try.prog 30 [v].toArray w (fun u w => ∃ q, u = .tuple #[q, .int .i64 (S.exsR l).2] ∧ Own 70 2 encP q (S.exsR l).1 w) := by
  refine fn_of' (args := [v]) Try.func30 rfl (ent Try.func30 (by kernel_rfl) rfl) rfl rfl (fun hH => ?_)
  refine seq (region (ops_y hH rfl rfl (yv_assign rfl) (ops_y hH rfl rfl (yv_assign rfl) (ops_nil (thn_n (seq (seq ?_)))))))
  by_cases hc1 : S.check l 0 = 0
  · skip
    have hc0 : S.check l 0 = 0 := ‹_›
    have hj : S.J l := S.check_iff.1 hc0
    have hl1 := hj.1
    have hl10 := hj.2.1
    refine region (ops_y hH rfl rfl (yv_move rfl) ?_)
    refine op_fnV rfl rfl rfl hH (c24 (h0.now hH (n := 0) rfl) (by omega)) (fun w2 hH3 => ?_)
    refine ops_y hH3 rfl rfl (yv_neq rfl rfl) ?_
    refine ops_nil (thn_n ?_)
    have hc4 : ¬ (¬ ((S.check l 0) = 0)) := fun h => h hc0
    refine cond_f rfl (not_decide_f hc4) ?_
    refine skip (thn_n (seq (region (ops_y hH3 rfl rfl (yv_move rfl) ?_))))
    refine op_fn rfl rfl rfl hH3 (c60 (h0.now hH3 (n := 0) rfl) (by omega)) (fun u7 w5 lo8 hi9 hH6 hv10 => ?_)
    have hH11 := Heap.toOw hH6 (n := 0) rfl
    refine ops_y hH11 rfl rfl (yv_assign rfl) (ops_nil (thn_n (seq (region (ops_y hH11 rfl rfl (yv_assign rfl) (ops_nil (thn_n (seq (seq ?_)))))))))
    refine region (ops_y hH11 rfl rfl (yv_assign rfl) (ops_nil (thn_n (block ?_))))
    have hH12 := ow_nil (enc := encP) 70 2 hH11
    refine loop (S := List Int × List S.Pr × Nat × Value × Nat × Nat × Value × Nat × Nat) (fun (m, xs, i, v_4, lo_4, hi_4, v_5, lo_5, hi_5) => [(6, (.int .i64 (i : Int))), (4, v_4), (5, v_5), (2, (.slice none 0 0)), (3, (.int .i64 0))]) (fun (m, xs, i, v_4, lo_4, hi_4, v_5, lo_5, hi_5) w1 => Heap [ow lo_5 hi_5 70 2 encP v_5 xs, ow lo_4 hi_4 3 1 encI v_4 m, base w] w1 ∧ S.Xs l m xs i ∧ i ≤ l.length) (fun (m, xs, i, v_4, lo_4, hi_4, v_5, lo_5, hi_5) => l.length - i) (l, [], 0, u7, lo8, hi9, (.slice none 0 0), w5.heap.size, w5.heap.size) (Sub.cons rfl (Sub.cons rfl (Sub.cons rfl (Sub.cons rfl (Sub.cons rfl (Sub.nil _)))))) ?_ ?_
    · exact ⟨(Heap.recast (n := 0) hH12 rfl (rfl)), S.Xs.start hj, by omega⟩
    · rintro ⟨m, xs, i, v_4, lo_4, hi_4, v_5, lo_5, hi_5⟩ w13 ⟨hH14, hX, hil⟩
      show Holds _ _ _ _ _ [(6, (.int .i64 (i : Int))), (4, v_4), (5, v_5), (2, (.slice none 0 0)), (3, (.int .i64 0))] _ _
      have hjm := hX.1
      have hml := hX.2.1
      have hm10 := hjm.2.1
      have hxl := hX.2.2.2.1
      refine seq (seq (region (ops_y hH14 rfl rfl (yv_move rfl) (ops_y hH14 rfl rfl (yv_move rfl) ?_))))
      refine ops_y hH14 rfl rfl (yv_len T.sl22 rfl (Heap.rdw T.el22_encI hH14 (n := 1) rfl).is) ?_
      refine ops_y hH14 rfl rfl (yv_lss rfl rfl) ?_
      refine ops_nil (thn_n ?_)
      by_cases hc15 : (i : Int) < (m.length : Int)
      · skip
        refine cond_t rfl (decide_eq_true hc15) ?_
        refine skip (thn_n (seq (block (block ?_))))
        refine loop (S := List Int × List S.Pr × Value × Nat × Nat × Value × Nat × Nat) (fun (m3, xs3, v_4, lo_4, hi_4, v_5, lo_5, hi_5) => [(4, v_4), (5, v_5), (2, (.slice none 0 0)), (3, (.int .i64 0)), (6, (.int .i64 (i : Int)))]) (fun (m3, xs3, v_4, lo_4, hi_4, v_5, lo_5, hi_5) w1 => Heap [ow lo_5 hi_5 70 2 encP v_5 xs3, ow lo_4 hi_4 3 1 encI v_4 m3, base w] w1 ∧ S.Xs l m3 xs3 i) (fun (m3, xs3, v_4, lo_4, hi_4, v_5, lo_5, hi_5) => m3.length - S.cyc m3) (m, xs, v_4, lo_4, hi_4, v_5, lo_5, hi_5) (Sub.cons rfl (Sub.cons rfl (Sub.cons rfl (Sub.cons rfl (Sub.cons rfl (Sub.nil _)))))) ?_ ?_
        · exact ⟨hH14, hX⟩
        · rintro ⟨m3, xs3, v_4, lo_4, hi_4, v_5, lo_5, hi_5⟩ w16 ⟨hH17, hX3⟩
          show Holds _ _ _ _ _ [(4, v_4), (5, v_5), (2, (.slice none 0 0)), (3, (.int .i64 0)), (6, (.int .i64 (i : Int)))] _ _
          have hjm := hX3.1
          have hml := hX3.2.1
          have hm10 := hjm.2.1
          have hxl := hX3.2.2.2.1
          have hi3 : i < m3.length := by omega
          refine seq (seq (region (ops_y hH17 rfl rfl (yv_move rfl) (ops_y hH17 rfl rfl (yv_move rfl) ?_))))
          refine ops_y hH17 rfl rfl (yv_index T.sl22 rfl rfl (Heap.rdw T.el22_encI hH17 (n := 1) rfl).is (by omega)) ?_
          refine ops_y hH17 rfl rfl (yv_load T.one3 rfl (fun _ hw => Rd.at (Heap.rdw T.el22_encI hw (n := 1) rfl) (i := (i : Int)) (by omega) (j := 0) rfl)) ?_
          refine ops_y hH17 rfl rfl (yv_move rfl) ?_
          refine ops_y hH17 rfl rfl (yv_neq rfl rfl) ?_
          refine ops_nil (thn_n ?_)
          by_cases hc18 : (nth m3 (i : Int)) = (i : Int)
          · skip
            have hfx : nth m3 (i : Int) = (i : Int) := by omega
            refine cond_f rfl (not_decide_n hc18) ?_
            refine exit (thn_x (lp_x (blk_here (blk_n (thn_n (region (ops_y hH17 rfl rfl (yv_move rfl) ?_)))))))
            refine ops_y hH17 rfl rfl (yv_add rfl rfl (by omega)) ?_
            refine ops_y hH17 rfl rfl (yv_assign rfl) (ops_nil ?_)
            refine lp_n (m3, xs3, (i + 1), v_4, lo_4, hi_4, v_5, lo_5, hi_5) (Sub.cons rfl (Sub.cons rfl (Sub.cons rfl (Sub.cons rfl (Sub.cons rfl (Sub.nil _)))))) ?_ ?_
            · exact ⟨hH17, hX3.next hfx, by omega⟩
            · first | (dsimp only; omega) | (show _ < _; omega)
          · skip
            have hwr : ¬ nth m3 (i : Int) = (i : Int) := ‹_›
            have hxl3 := hX3.lt hj hi3 hwr
            have hvi := hjm.nth (x := (i : Int)) (by omega) (by omega)
            have hsl : (m3.set ((i : Int)).toNat (nth m3 (nth m3 (i : Int)))).length = m3.length := List.length_set
            have hsl2 : ((m3.set ((i : Int)).toNat (nth m3 (nth m3 (i : Int)))).set (nth m3 (i : Int)).toNat (nth m3 (i : Int))).length = m3.length := (List.length_set).trans hsl
            refine cond_t rfl (not_decide_t hc18) ?_
            refine skip (thn_n (block (seq (region (ops_y hH17 rfl rfl (yv_move rfl) (ops_y hH17 rfl rfl (yv_move rfl) ?_))))))
            refine ops_y hH17 rfl rfl (yv_index T.sl22 rfl rfl (Heap.rdw T.el22_encI hH17 (n := 1) rfl).is (by omega)) ?_
            refine ops_y hH17 rfl rfl (yv_load T.one3 rfl (fun _ hw => Rd.at (Heap.rdw T.el22_encI hw (n := 1) rfl) (i := (i : Int)) (by omega) (j := 0) rfl)) ?_
            refine ops_y hH17 rfl rfl (yv_assign rfl) (ops_nil (thn_n (seq (region (ops_y hH17 rfl rfl (yv_move rfl) (ops_y hH17 rfl rfl (yv_move rfl) (ops_y hH17 rfl rfl (yv_move rfl) ?_)))))))
            refine ops_y hH17 rfl rfl (yv_build (v := (.agg #[(.int .i64 (i : Int)), (.int .i64 (nth m3 (i : Int)))])) (us := [(0, (.int .i64 (i : Int))), (1, (.int .i64 (nth m3 (i : Int))))]) (fun a ha => by simp [ha.ev (show ev _ (.tmp 32) = some _ from rfl), ha.ev (show ev _ (.tmp 33) = some _ from rfl)]) (fun w => by kernel_rfl)) ?_
            refine op_lit (us := [(0, (.agg #[(.int .i64 (i : Int)), (.int .i64 (nth m3 (i : Int)))]))]) T.el29_encP [((i : Int), nth m3 (i : Int))] rfl (by decide) rfl (fun a ha => by simp [ha.ev (show ev _ (.tmp 34) = some _ from rfl)]) (fun w => by kernel_rfl) hH17 (fun u19 lo21 hi22 w20 hH23 => ?_)
            refine op_append (n := 1) T.el29_encP rfl rfl rfl hH23 rfl (Heap.rdw T.el29_encP hH23 (n := 0) rfl) (by first | omega | (simp only [List.length_append, List.length_cons, List.length_nil]; omega)) (fun u24 lo26 hi27 w25 hH28 => ?_)
            refine ops_y hH28 rfl rfl (yv_assign rfl) (ops_nil (thn_n ?_))
            refine region_drawY (fun w' => Heap [ow lo21 hi22 70 2 encP u19 [((i : Int), nth m3 (i : Int))], ow lo26 hi27 70 2 encP u24 (xs3 ++ [((i : Int), nth m3 (i : Int))]), ow lo_4 hi_4 3 1 encI v_4 m3, base w] w') [13, 15] T.mixed (fun w29 hr30 => ?_)
            have hH31 := hH28.redrawn hr30
            refine any_takesT [0, 1, 2, 3, 4, 5, 6, 8, 9, 10] (by kernel_rfl)  _ _ _ (by kernel_rfl) ?_
            refine qs_y rfl rfl (yv_move rfl) (qs_y rfl rfl (yv_move rfl) (qs_y rfl rfl (yv_move rfl) (qs_y rfl rfl (yv_move rfl) (qs_y rfl rfl (yv_move rfl) (qs_y rfl rfl (yv_move rfl) ?_)))))
            refine qs_y rfl rfl (yv_index T.sl22 rfl rfl (Heap.rdw T.el22_encI hH31 (n := 2) rfl).is (by omega)) ?_
            refine qs_y rfl rfl (yv_move rfl) (qs_y rfl rfl (yv_move rfl) ?_)
            refine qs_y rfl rfl (yv_index T.sl22 rfl rfl (Heap.rdw T.el22_encI hH31 (n := 2) rfl).is (by omega)) ?_
            refine qs_nil ?_
            refine any_takesY [7, 11] (by kernel_rfl) hH31 _ _ _ (by kernel_rfl) ?_
            refine qs_y rfl rfl (yv_load T.one3 rfl (fun _ hw => Rd.at (Heap.rdw T.el22_encI hw (n := 2) rfl) (i := nth m3 (i : Int)) (by omega) (j := 0) rfl)) ?_
            refine qs_y rfl rfl (yv_load T.one3 rfl (fun _ hw => Rd.at (Heap.rdw T.el22_encI hw (n := 2) rfl) (i := (i : Int)) (by omega) (j := 0) rfl)) ?_
            refine qs_nil ?_
            refine any_takesT [12] (by kernel_rfl)  _ _ _ (by kernel_rfl) ?_
            refine qs_y rfl rfl (yv_index T.sl22 rfl rfl (Heap.rdw T.el22_encI hH31 (n := 2) rfl).is (by omega)) ?_
            refine qs_nil ?_
            refine any_allY [13] (by kernel_rfl) rfl ?_
            refine ⟨⟨_, rfl, ?_⟩, trivial⟩
            · skip
              refine op_setE (n := 2) (i := (i : Int)) (k := 0) (us := [(.int .i64 (nth m3 (nth m3 (i : Int))))]) (z := nth m3 (nth m3 (i : Int))) T.el22_encI rfl rfl hH31 rfl (by omega) T.sz3 rfl rfl rfl (Nat.le_of_ble_eq_true rfl) (fun w32 hH33 => ?_)
              refine ops_nil ?_
              refine ⟨(fun h => by cases h), ?_⟩
              refine any_takesT [14] (by kernel_rfl)  _ _ _ (by kernel_rfl) ?_
              refine qs_y rfl rfl (yv_index T.sl22 rfl rfl (Heap.rdw T.el22_encI hH33 (n := 2) rfl).is (by omega)) ?_
              refine qs_nil ?_
              refine any_allY [15] (by kernel_rfl) rfl ?_
              refine ⟨⟨_, rfl, ?_⟩, trivial⟩
              · skip
                refine op_setE (n := 2) (i := nth m3 (i : Int)) (k := 0) (us := [(.int .i64 (nth m3 (i : Int)))]) (z := nth m3 (i : Int)) T.el22_encI rfl rfl hH33 rfl (by omega) T.sz3 rfl rfl rfl (Nat.le_of_ble_eq_true rfl) (fun w34 hH35 => ?_)
                refine ops_nil ?_
                refine ⟨(fun h => by cases h), ?_⟩
                refine any_doneY (by kernel_rfl) ?_
                refine blk_n ?_
                have hH36 := (hH35.sub (List.Sublist.cons _ (List.Sublist.refl _)))
                refine lp_n ((S.swp m3 (i : Int) (nth m3 (i : Int))), (xs3 ++ [((i : Int), nth m3 (i : Int))]), v_4, lo_4, hi_4, u24, lo26, hi27) (Sub.cons rfl (Sub.cons rfl (Sub.cons rfl (Sub.cons rfl (Sub.cons rfl (Sub.nil _)))))) ?_ ?_
                · exact ⟨(Heap.recast (n := 1) hH36 rfl (rfl)), hX3.step hj (by omega) hwr⟩
                · (have hq := hX3.dec (by omega) hwr; have hq2 := S.swp_length (l := m3) (a := (i : Int)) (b := nth m3 (i : Int)); dsimp only; omega)
      · skip
        refine cond_f rfl (decide_eq_false hc15) ?_
        refine exit (thn_x (lp_x (blk_here (thn_n (seq (region (ops_y hH14 rfl rfl (yv_move rfl) (ops_y hH14 rfl rfl (yv_assign rfl) (ops_y hH14 rfl rfl (yv_assign rfl) ?_)))))))))
        refine ops_nil (thn_n (ret ?_))
        have hH37 := (hH14.sub (List.Sublist.cons_cons _ (List.Sublist.cons _ (List.Sublist.refl _))))
        refine fin (hH37.front (n := 1) rfl) (fun w' hf => (res2 rfl (show RV _ _ _ (.tmp 2) _ from rfl) (show RV _ _ _ (.tmp 3) _ from rfl))) (fun w' hf => ?_)
        first | (rw [S.ex1 hcn]; exact ⟨_, rfl, own_nil⟩) | (have hk2 : m.length ≤ i := (by omega); rw [S.ex2 hc0, ← hX.done hk2]; exact ⟨_, rfl, Heap.own hf (n := 0) rfl⟩)
  · skip
    have hcn : ¬ S.check l 0 = 0 := ‹_›
    refine region (ops_y hH rfl rfl (yv_move rfl) ?_)
    refine op_fnV rfl rfl rfl hH (c24 (h0.now hH (n := 0) rfl) (by omega)) (fun w38 hH39 => ?_)
    refine ops_y hH39 rfl rfl (yv_neq rfl rfl) ?_
    refine ops_nil (thn_n ?_)
    have hc40 : ¬ ((S.check l 0) = 0) := hcn
    refine cond_t rfl (not_decide_t hc40) ?_
    refine seq (region (ops_y hH39 rfl rfl (yv_move rfl) ?_))
    refine op_fnV rfl rfl rfl hH39 (c24 (h0.now hH39 (n := 0) rfl) (by omega)) (fun w41 hH42 => ?_)
    refine ops_y hH42 rfl rfl (yv_assign rfl) (ops_y hH42 rfl rfl (yv_assign rfl) (ops_nil (thn_n (ret (thn_r ?_)))))
    refine fin hH42 (fun w' hf => (res2 rfl (show RV _ _ _ (.tmp 2) _ from rfl) (show RV _ _ _ (.tmp 3) _ from rfl))) (fun w' hf => ?_)
    first | (rw [S.ex1 hcn]; exact ⟨_, rfl, own_nil⟩) | (have hk2 : m.length ≤ i := (by omega); rw [S.ex2 hc0, ← hX.done hk2]; exact ⟨_, rfl, Heap.own hf (n := 0) rfl⟩)

end Go.Fip

set_option linter.unusedVariables false
set_option linter.unusedSimpArgs false
set_option linter.unusedSectionVars false
set_option linter.unnecessarySimpa false
namespace Go.Fip
open Go.Proofs Go.RowKit

theorem c80_2 {v : Value} {a b lo hi : Int} {w : World} (h0 : Rd encI 1 v [a, b] w) : Fn Try.prog 80 [.int .i64 lo, .int .i64 hi, v].toArray w (fun u _ => u = .bool (decide ((lo ≤ a ∧ a ≤ hi) ∧ (lo ≤ b ∧ b ≤ hi)))) := by
  have h := c80 (lo := lo) (hi := hi) h0 (by simp)
  rwa [show decide (∀ x ∈ [a, b], lo ≤ x ∧ x ≤ hi) = decide ((lo ≤ a ∧ a ≤ hi) ∧ (lo ≤ b ∧ b ≤ hi)) from decide_eq_decide.2 (by simp)] at h

theorem c79 {a b : Int} {b1 : Nat} {v : Value} {l : List Int} {w : World} (k1 : Bx b1 22 [v] w) (h0 : Rd encI 1 v l w) (hl : l.length ≤ 1000000)  :
    Fn Try.prog 79 [(.agg #[(.int .i64 a), (.int .i64 b)]), (.pointer (some ⟨b1, 0, none⟩))].toArray w (fun u _ => u = .bool (S.stray (l.length : Int) (a, b))) := by
  refine fn_of' (args := [(.agg #[(.int .i64 a), (.int .i64 b)]), (.pointer (some ⟨b1, 0, none⟩))]) Try.func79 rfl (ent Try.func79 (by kernel_rfl) rfl) rfl rfl (fun hH => ?_)
  refine seq (region ?_)
  refine op_box (us := [(.int .i64 a), (.int .i64 b)]) rfl rfl rfl hH (fun b1 w2 hH3 => ?_)
  refine ops_y hH3 rfl rfl (yv_assign rfl) (ops_nil (thn_n (seq ?_)))
  refine region_draw (fun w' => Heap [bx b1 70 [(.int .i64 a), (.int .i64 b)], base w] w') T.mixed (fun w4 hr5 => ?_)
  have hH6 := hH3.redrawn hr5
  refine any_takes [0, 1, 2, 3] (by kernel_rfl) hH6 _ _ _ (by kernel_rfl) ?_
  refine qs_y rfl rfl (yv_load T.one22 rfl (fun _ hw => bx_cell (k1.now hw (n := 1) rfl) rfl)) ?_
  refine qs_y rfl rfl (yv_len T.sl22 rfl (h0.now hH6 (n := 1) rfl).is) ?_
  refine qs_y rfl rfl (yv_sub rfl rfl (by omega)) ?_
  refine qs_y rfl rfl (yv_all T.arr70 rfl) ?_
  refine qs_nil ?_
  refine any_all [4] (by kernel_rfl) rfl ?_
  refine ⟨⟨_, rfl, ?_⟩, trivial⟩
  · skip
    refine op_fnV rfl rfl rfl hH6 (c80_2 ((Bx.rdI (xs := [a, b]) (Heap.bxw hH6 (n := 0) rfl)))) (fun w7 hH8 => ?_)
    refine ops_nil ?_
    refine ⟨hH8, ?_⟩
    refine any_takes [5, 6] (by kernel_rfl) hH8 _ _ _ (by kernel_rfl) ?_
    refine qs_y rfl rfl (yv_not rfl) ?_
    refine qs_y rfl rfl (yv_assign rfl) (qs_nil ?_)
    refine any_done (by kernel_rfl) ?_
    refine thn_n (ret ?_)
    have hH9 := (hH8.sub (List.Sublist.cons _ (List.Sublist.refl _)))
    refine fin hH9 (fun w' hf => (res1 rfl (show RV _ _ _ (.tmp 3) _ from rfl))) (fun w' hf => ?_)
    rfl

theorem c81 {a b : Int} {w : World}  :
    Fn Try.prog 81 [(.agg #[(.int .i64 a), (.int .i64 b)])].toArray w (fun u _ => u = .bool (S.same (a, b))) := by
  refine fn_of' (args := [(.agg #[(.int .i64 a), (.int .i64 b)])]) Try.func81 rfl (ent Try.func81 (by kernel_rfl) rfl) rfl rfl (fun hH => ?_)
  refine seq (region ?_)
  refine op_box (us := [(.int .i64 a), (.int .i64 b)]) rfl rfl rfl hH (fun b1 w2 hH3 => ?_)
  refine ops_y hH3 rfl rfl (yv_assign rfl) (ops_nil (thn_n (seq (region ?_))))
  refine ops_y hH3 rfl rfl (yv_indexA T.arr70 rfl rfl (by omega)) ?_
  refine ops_y hH3 rfl rfl (yv_load T.one3 rfl (fun _ hw => Heap.cellw hw (n := 0) rfl rfl)) ?_
  refine ops_y hH3 rfl rfl (yv_indexA T.arr70 rfl rfl (by omega)) ?_
  refine ops_y hH3 rfl rfl (yv_load T.one3 rfl (fun _ hw => Heap.cellw hw (n := 0) rfl rfl)) ?_
  refine ops_y hH3 rfl rfl (yv_eql rfl rfl) ?_
  refine ops_y hH3 rfl rfl (yv_assign rfl) (ops_nil (thn_n (ret ?_)))
  have hH4 := (hH3.sub (List.Sublist.cons _ (List.Sublist.refl _)))
  refine fin hH4 (fun w' hf => (res1 rfl (show RV _ _ _ (.tmp 2) _ from rfl))) (fun w' hf => ?_)
  rfl

theorem c111_79 {vx : Value} {xs : List S.Pr} {b1 : Nat} {v : Value} {l : List Int} {w : World} (k1 : Bx b1 22 [v] w) (h0 : Rd encI 1 v l w) (hl : l.length ≤ 1000000) (hx : Rd encP 2 vx xs w) (hxn : xs.length ≤ 1000000)  :
    Fn Try.prog 111 [vx, (.func (.func 79) #[] #[(.pointer (some ⟨b1, 0, none⟩))])].toArray w (fun u _ => u = .int .i64 (idx (S.stray (l.length : Int)) xs)) := by
  refine fn_of' (args := [vx, (.func (.func 79) #[] #[(.pointer (some ⟨b1, 0, none⟩))])]) Try.func111 rfl (ent Try.func111 (by kernel_rfl) rfl) rfl rfl (fun hH => ?_)
  refine seq (region (ops_y hH rfl rfl (yv_assign rfl) (ops_nil (thn_n (seq (seq (region (ops_y hH rfl rfl (yv_move rfl) ?_))))))))
  refine ops_y hH rfl rfl (yv_len T.sl29 rfl (hx.now hH (n := 0) rfl).is) ?_
  refine ops_y hH rfl rfl (yv_move rfl) (ops_nil (thn_n (block ?_)))
  refine loop (S := Nat) (fun k => [(8, (.int .i64 (k : Int))), (0, vx), (1, (.func (.func 79) #[] #[(.pointer (some ⟨b1, 0, none⟩))])), (7, (.int .i64 (xs.length : Int)))]) (fun k w1 => Heap [base w] w1 ∧ k ≤ xs.length ∧ ∀ i, i < k → (S.stray (l.length : Int)) (nth xs (i : Int)) = false) (fun k => xs.length - k) (0) (Sub.cons rfl (Sub.cons rfl (Sub.cons rfl (Sub.cons rfl (Sub.nil _))))) ?_ ?_
  · exact ⟨hH, by omega, S.all_zero⟩
  · rintro k w1 ⟨hH2, hk, hall⟩
    show Holds _ _ _ _ _ [(8, (.int .i64 (k : Int))), (0, vx), (1, (.func (.func 79) #[] #[(.pointer (some ⟨b1, 0, none⟩))])), (7, (.int .i64 (xs.length : Int)))] _ _
    refine seq (region ?_)
    refine ops_y hH2 rfl rfl (yv_lss rfl rfl) ?_
    refine ops_nil (thn_n (seq ?_))
    by_cases hc3 : (k : Int) < (xs.length : Int)
    · skip
      refine cond_t rfl (decide_eq_true hc3) ?_
      refine skip (thn_n (seq (block (seq (region (ops_y hH2 rfl rfl (yv_move rfl) (ops_y hH2 rfl rfl (yv_assign rfl) (ops_nil (thn_n ?_)))))))))
      refine seq (region (ops_y hH2 rfl rfl (yv_move rfl) (ops_y hH2 rfl rfl (yv_move rfl) (ops_y hH2 rfl rfl (yv_move rfl) ?_))))
      refine ops_y hH2 rfl rfl (yv_index T.sl29 rfl rfl (hx.now hH2 (n := 0) rfl).is (by omega)) ?_
      refine ops_y hH2 rfl rfl (yv_loadA (cs := [(.int .i64 ((nth xs (k : Int)).1)), (.int .i64 ((nth xs (k : Int)).2))]) T.agg70 rfl rfl (fun _ hw => Rd.atA (hx.now hw (n := 0) rfl) (i := (k : Int)) (by omega))) ?_
      refine op_fnV rfl rfl rfl hH2 (c79 (k1.now hH2 (n := 0) rfl) (h0.now hH2 (n := 0) rfl) (by omega)) (fun w4 hH5 => ?_)
      refine ops_nil (thn_n ?_)
      by_cases hc6 : (S.stray (l.length : Int) ((nth xs (k : Int)).1, (nth xs (k : Int)).2)) = true
      · skip
        have hp : (S.stray (l.length : Int)) (nth xs (k : Int)) = true := hc6
        refine cond_t rfl hc6 ?_
        refine seq (region (ops_y hH5 rfl rfl (yv_move rfl) (ops_y hH5 rfl rfl (yv_assign rfl) (ops_nil (thn_n (ret (blk_r (thn_r (lp_r ?_)))))))))
        refine blk_r (thn_r ?_)
        refine fin hH5 (fun w' hf => (res1 rfl (show RV _ _ _ (.tmp 4) _ from rfl))) (fun w' hf => ?_)
        first | exact congrArg (Value.int .i64) (idx_hit (k := k) (by omega) hall hp).symm | exact congrArg (Value.int .i64) (idx_miss (fun i hi => hall i (by omega))).symm
      · skip
        have hp : (S.stray (l.length : Int)) (nth xs (k : Int)) = false := (Bool.eq_false_iff.2 hc6)
        refine cond_f rfl (Bool.eq_false_iff.2 hc6) ?_
        refine skip (blk_n (thn_n (region ?_)))
        refine ops_y hH5 rfl rfl (yv_add rfl rfl (by omega)) ?_
        refine ops_y hH5 rfl rfl (yv_move rfl) (ops_nil ?_)
        refine lp_n (k + 1) (Sub.cons rfl (Sub.cons rfl (Sub.cons rfl (Sub.cons rfl (Sub.nil _))))) ?_ ?_
        · exact ⟨hH5, by omega, S.all_snoc hall hp⟩
        · first | (dsimp only; omega) | (show _ < _; omega)
    · skip
      refine cond_f rfl (decide_eq_false hc3) ?_
      refine exit (thn_x (lp_x (blk_here (thn_n (seq (region (ops_y hH2 rfl rfl (yv_assign rfl) (ops_nil (thn_n ?_)))))))))
      refine ret ?_
      refine fin hH2 (fun w' hf => (res1 rfl (show RV _ _ _ (.tmp 4) _ from rfl))) (fun w' hf => ?_)
      first | exact congrArg (Value.int .i64) (idx_hit (k := k) (by omega) hall hp).symm | exact congrArg (Value.int .i64) (idx_miss (fun i hi => hall i (by omega))).symm

theorem c111_81 {vx : Value} {xs : List S.Pr} {w : World} (hx : Rd encP 2 vx xs w) (hxn : xs.length ≤ 1000000)  :
    Fn Try.prog 111 [vx, (.func (.func 81) #[] #[])].toArray w (fun u _ => u = .int .i64 (idx S.same xs)) := by
  refine fn_of' (args := [vx, (.func (.func 81) #[] #[])]) Try.func111 rfl (ent Try.func111 (by kernel_rfl) rfl) rfl rfl (fun hH => ?_)
  refine seq (region (ops_y hH rfl rfl (yv_assign rfl) (ops_nil (thn_n (seq (seq (region (ops_y hH rfl rfl (yv_move rfl) ?_))))))))
  refine ops_y hH rfl rfl (yv_len T.sl29 rfl (hx.now hH (n := 0) rfl).is) ?_
  refine ops_y hH rfl rfl (yv_move rfl) (ops_nil (thn_n (block ?_)))
  refine loop (S := Nat) (fun k => [(8, (.int .i64 (k : Int))), (0, vx), (1, (.func (.func 81) #[] #[])), (7, (.int .i64 (xs.length : Int)))]) (fun k w1 => Heap [base w] w1 ∧ k ≤ xs.length ∧ ∀ i, i < k → S.same (nth xs (i : Int)) = false) (fun k => xs.length - k) (0) (Sub.cons rfl (Sub.cons rfl (Sub.cons rfl (Sub.cons rfl (Sub.nil _))))) ?_ ?_
  · exact ⟨hH, by omega, S.all_zero⟩
  · rintro k w1 ⟨hH2, hk, hall⟩
    show Holds _ _ _ _ _ [(8, (.int .i64 (k : Int))), (0, vx), (1, (.func (.func 81) #[] #[])), (7, (.int .i64 (xs.length : Int)))] _ _
    refine seq (region ?_)
    refine ops_y hH2 rfl rfl (yv_lss rfl rfl) ?_
    refine ops_nil (thn_n (seq ?_))
    by_cases hc3 : (k : Int) < (xs.length : Int)
    · skip
      refine cond_t rfl (decide_eq_true hc3) ?_
      refine skip (thn_n (seq (block (seq (region (ops_y hH2 rfl rfl (yv_move rfl) (ops_y hH2 rfl rfl (yv_assign rfl) (ops_nil (thn_n ?_)))))))))
      refine seq (region (ops_y hH2 rfl rfl (yv_move rfl) (ops_y hH2 rfl rfl (yv_move rfl) (ops_y hH2 rfl rfl (yv_move rfl) ?_))))
      refine ops_y hH2 rfl rfl (yv_index T.sl29 rfl rfl (hx.now hH2 (n := 0) rfl).is (by omega)) ?_
      refine ops_y hH2 rfl rfl (yv_loadA (cs := [(.int .i64 ((nth xs (k : Int)).1)), (.int .i64 ((nth xs (k : Int)).2))]) T.agg70 rfl rfl (fun _ hw => Rd.atA (hx.now hw (n := 0) rfl) (i := (k : Int)) (by omega))) ?_
      refine op_fnV rfl rfl rfl hH2 (c81) (fun w4 hH5 => ?_)
      refine ops_nil (thn_n ?_)
      by_cases hc6 : (S.same ((nth xs (k : Int)).1, (nth xs (k : Int)).2)) = true
      · skip
        have hp : S.same (nth xs (k : Int)) = true := hc6
        refine cond_t rfl hc6 ?_
        refine seq (region (ops_y hH5 rfl rfl (yv_move rfl) (ops_y hH5 rfl rfl (yv_assign rfl) (ops_nil (thn_n (ret (blk_r (thn_r (lp_r ?_)))))))))
        refine blk_r (thn_r ?_)
        refine fin hH5 (fun w' hf => (res1 rfl (show RV _ _ _ (.tmp 4) _ from rfl))) (fun w' hf => ?_)
        first | exact congrArg (Value.int .i64) (idx_hit (k := k) (by omega) hall hp).symm | exact congrArg (Value.int .i64) (idx_miss (fun i hi => hall i (by omega))).symm
      · skip
        have hp : S.same (nth xs (k : Int)) = false := (Bool.eq_false_iff.2 hc6)
        refine cond_f rfl (Bool.eq_false_iff.2 hc6) ?_
        refine skip (blk_n (thn_n (region ?_)))
        refine ops_y hH5 rfl rfl (yv_add rfl rfl (by omega)) ?_
        refine ops_y hH5 rfl rfl (yv_move rfl) (ops_nil ?_)
        refine lp_n (k + 1) (Sub.cons rfl (Sub.cons rfl (Sub.cons rfl (Sub.cons rfl (Sub.nil _))))) ?_ ?_
        · exact ⟨hH5, by omega, S.all_snoc hall hp⟩
        · first | (dsimp only; omega) | (show _ < _; omega)
    · skip
      refine cond_f rfl (decide_eq_false hc3) ?_
      refine exit (thn_x (lp_x (blk_here (thn_n (seq (region (ops_y hH2 rfl rfl (yv_assign rfl) (ops_nil (thn_n ?_)))))))))
      refine ret ?_
      refine fin hH2 (fun w' hf => (res1 rfl (show RV _ _ _ (.tmp 4) _ from rfl))) (fun w' hf => ?_)
      first | exact congrArg (Value.int .i64) (idx_hit (k := k) (by omega) hall hp).symm | exact congrArg (Value.int .i64) (idx_miss (fun i hi => hall i (by omega))).symm

theorem c82_79 {vx : Value} {xs : List S.Pr} {b1 : Nat} {v : Value} {l : List Int} {w : World} (k1 : Bx b1 22 [v] w) (h0 : Rd encI 1 v l w) (hl : l.length ≤ 1000000) (hx : Rd encP 2 vx xs w) (hxn : xs.length ≤ 1000000)  :
    Fn Try.prog 82 [vx, (.func (.func 79) #[] #[(.pointer (some ⟨b1, 0, none⟩))])].toArray w (fun u _ => u = .bool (has (S.stray (l.length : Int)) xs)) := by
  refine fn_of' (args := [vx, (.func (.func 79) #[] #[(.pointer (some ⟨b1, 0, none⟩))])]) Try.func82 rfl (ent Try.func82 (by kernel_rfl) rfl) rfl rfl (fun hH => ?_)
  refine seq (region (ops_y hH rfl rfl (yv_assign rfl) (ops_nil (thn_n (seq (region (ops_y hH rfl rfl (yv_move rfl) (ops_y hH rfl rfl (yv_move rfl) ?_))))))))
  refine op_fnV rfl rfl rfl hH (c111_79 (k1.now hH (n := 0) rfl) (h0.now hH (n := 0) rfl) (by omega) (hx.now hH (n := 0) rfl) (by omega)) (fun w1 hH2 => ?_)
  refine ops_y hH2 rfl rfl (yv_geq rfl rfl) ?_
  refine ops_y hH2 rfl rfl (yv_assign rfl) (ops_nil (thn_n (ret ?_)))
  refine fin hH2 (fun w' hf => (res1 rfl (show RV _ _ _ (.tmp 4) _ from rfl))) (fun w' hf => ?_)
  rfl

theorem c82_81 {vx : Value} {xs : List S.Pr} {w : World} (hx : Rd encP 2 vx xs w) (hxn : xs.length ≤ 1000000)  :
    Fn Try.prog 82 [vx, (.func (.func 81) #[] #[])].toArray w (fun u _ => u = .bool (has S.same xs)) := by
  refine fn_of' (args := [vx, (.func (.func 81) #[] #[])]) Try.func82 rfl (ent Try.func82 (by kernel_rfl) rfl) rfl rfl (fun hH => ?_)
  refine seq (region (ops_y hH rfl rfl (yv_assign rfl) (ops_nil (thn_n (seq (region (ops_y hH rfl rfl (yv_move rfl) (ops_y hH rfl rfl (yv_move rfl) ?_))))))))
  refine op_fnV rfl rfl rfl hH (c111_81 (hx.now hH (n := 0) rfl) (by omega)) (fun w1 hH2 => ?_)
  refine ops_y hH2 rfl rfl (yv_geq rfl rfl) ?_
  refine ops_y hH2 rfl rfl (yv_assign rfl) (ops_nil (thn_n (ret ?_)))
  refine fin hH2 (fun w' hf => (res1 rfl (show RV _ _ _ (.tmp 4) _ from rfl))) (fun w' hf => ?_)
  rfl

theorem c27 {v vx : Value} {l : List Int} {xs : List S.Pr} {w : World} (h0 : Rd encI 1 v l w) (hx : Rd encP 2 vx xs w) (hn : l.length ≤ 1000000) (hxn : xs.length ≤ 1000000)  :
    Fn Try.prog 27 [v, vx].toArray w (fun u w => ∃ q, u = .tuple #[q, .int .i64 (S.applyR l xs).2] ∧ Own 3 1 encI q (S.applyR l xs).1 w) := by
  refine fn_of' (args := [v, vx]) Try.func27 rfl (ent Try.func27 (by kernel_rfl) rfl) rfl rfl (fun hH => ?_)
  refine seq (region ?_)
  refine op_box (us := [v]) rfl (SliceIs.cells (h0.now hH (n := 0) rfl).is) rfl hH (fun b1 w2 hH3 => ?_)
  refine ops_y hH3 rfl rfl (yv_assign rfl) (ops_y hH3 rfl rfl (yv_assign rfl) (ops_nil (thn_n (seq ?_))))
  by_cases hc4 : S.check l 0 = 0
  · skip
    have hc0 : S.check l 0 = 0 := ‹_›
    have hj : S.J l := S.check_iff.1 hc0
    have hl1 := hj.1
    have hl10 := hj.2.1
    refine region ?_
    refine ops_y hH3 rfl rfl (yv_load T.one22 rfl (fun _ hw => Heap.cellw hw (n := 0) rfl rfl)) ?_
    refine op_fn rfl rfl rfl hH3 (c72 (h0.now hH3 (n := 1) rfl) (by omega) hj) (fun u7 w5 lo8 hi9 hH6 hv10 => ?_)
    obtain ⟨b11, r12, hu, hb13⟩ := hv10
    subst hu
    obtain ⟨g14, hH15⟩ := Heap.toBench hH6 (n := 0) rfl (fun w' h => by obtain ⟨b1, v1, e, h⟩ := h; cases e; exact ⟨v1, h⟩) hb13 (by omega)
    refine ops_y hH15 rfl rfl (yv_move rfl) (ops_y hH15 rfl rfl (yv_extract rfl rfl) (ops_y hH15 rfl rfl (yv_extract rfl rfl) (ops_y hH15 rfl rfl (yv_assign rfl) (ops_y hH15 rfl rfl (yv_assign rfl) (ops_nil (thn_n (seq (region ?_))))))))
    refine ops_y hH15 rfl rfl (yv_func rfl rfl) ?_
    refine ops_y hH15 rfl rfl (yv_assign rfl) (ops_nil (thn_n (seq (region (ops_y hH15 rfl rfl (yv_assign rfl) (ops_nil (thn_n (seq (block ?_)))))))))
    refine seq (region (ops_y hH15 rfl rfl (yv_move rfl) ?_))
    refine ops_y hH15 rfl rfl (yv_neq rfl rfl) ?_
    refine ops_y hH15 rfl rfl (yv_assign rfl) (ops_nil (thn_n ?_))
    refine cond_f rfl rfl ?_
    refine seq (region (ops_y hH15 rfl rfl (yv_move rfl) ?_))
    refine ops_y hH15 rfl rfl (yv_len T.sl29 rfl (hx.now hH15 (n := 3) rfl).is) ?_
    refine ops_y hH15 rfl rfl (yv_gtr rfl rfl) ?_
    refine ops_y hH15 rfl rfl (yv_assign rfl) (ops_nil (thn_n ?_))
    by_cases hc16 : 60 < (xs.length : Int)
    · skip
      refine cond_t rfl (decide_eq_true hc16) ?_
      refine seq (region (ops_y hH15 rfl rfl (yv_assign rfl) (ops_y hH15 rfl rfl (yv_assign rfl) (ops_nil (thn_n (ret (blk_r (thn_r ?_))))))))
      have hH17 := (hH15.sub (List.Sublist.cons _ (List.Sublist.cons _ (List.Sublist.cons _ (List.Sublist.refl _)))))
      refine fin hH17 (fun w' hf => (res2 rfl (show RV _ _ _ (.tmp 4) _ from rfl) (show RV _ _ _ (.tmp 5) _ from rfl))) (fun w' hf => ?_)
      first | (rw [S.ap1 hcn]; exact ⟨_, rfl, own_nil⟩) | (rw [S.ap2 hc0 (by omega)]; exact ⟨_, rfl, own_nil⟩) | (rw [S.ap3 hc0 (by omega) hst]; exact ⟨_, rfl, own_nil⟩) | (rw [S.ap4 hc0 (by omega) hns hsm]; exact ⟨_, rfl, own_nil⟩) | (have hk2 : k = xs.length := (by omega); subst hk2; rw [S.ap5 hc0 (by omega) hns hnm]; have h9 := Heap.own hf (n := 0) rfl; rw [List.take_length] at h9; exact ⟨_, rfl, h9⟩)
    · skip
      refine cond_f rfl (decide_eq_false hc16) ?_
      refine seq (region (ops_y hH15 rfl rfl (yv_move rfl) (ops_y hH15 rfl rfl (yv_move rfl) ?_)))
      refine op_fnV rfl rfl rfl hH15 (c82_79 (Heap.bxw hH15 (n := 2) rfl) (h0.now hH15 (n := 3) rfl) (by omega) (hx.now hH15 (n := 3) rfl) (by omega)) (fun w18 hH19 => ?_)
      refine ops_y hH19 rfl rfl (yv_assign rfl) (ops_nil (thn_n ?_))
      by_cases hc20 : (has (S.stray (l.length : Int)) xs) = true
      · skip
        have hst : has (S.stray (l.length : Int)) xs = true := hc20
        refine cond_t rfl hc20 ?_
        refine seq (region (ops_y hH19 rfl rfl (yv_assign rfl) (ops_y hH19 rfl rfl (yv_assign rfl) (ops_nil (thn_n (ret (blk_r (thn_r ?_))))))))
        have hH21 := (hH19.sub (List.Sublist.cons _ (List.Sublist.cons _ (List.Sublist.cons _ (List.Sublist.refl _)))))
        refine fin hH21 (fun w' hf => (res2 rfl (show RV _ _ _ (.tmp 4) _ from rfl) (show RV _ _ _ (.tmp 5) _ from rfl))) (fun w' hf => ?_)
        first | (rw [S.ap1 hcn]; exact ⟨_, rfl, own_nil⟩) | (rw [S.ap2 hc0 (by omega)]; exact ⟨_, rfl, own_nil⟩) | (rw [S.ap3 hc0 (by omega) hst]; exact ⟨_, rfl, own_nil⟩) | (rw [S.ap4 hc0 (by omega) hns hsm]; exact ⟨_, rfl, own_nil⟩) | (have hk2 : k = xs.length := (by omega); subst hk2; rw [S.ap5 hc0 (by omega) hns hnm]; have h9 := Heap.own hf (n := 0) rfl; rw [List.take_length] at h9; exact ⟨_, rfl, h9⟩)
      · skip
        have hns : has (S.stray (l.length : Int)) xs = false := (Bool.eq_false_iff.2 hc20)
        refine cond_f rfl (Bool.eq_false_iff.2 hc20) ?_
        refine seq (region (ops_y hH19 rfl rfl (yv_move rfl) (ops_y hH19 rfl rfl (yv_move rfl) ?_)))
        refine op_fnV rfl rfl rfl hH19 (c82_81 (hx.now hH19 (n := 3) rfl) (by omega)) (fun w22 hH23 => ?_)
        refine ops_y hH23 rfl rfl (yv_assign rfl) (ops_nil (thn_n ?_))
        by_cases hc24 : (has S.same xs) = true
        · skip
          have hsm : has S.same xs = true := hc24
          refine cond_t rfl hc24 ?_
          refine seq (region (ops_y hH23 rfl rfl (yv_assign rfl) (ops_y hH23 rfl rfl (yv_assign rfl) (ops_nil (thn_n (ret (blk_r (thn_r ?_))))))))
          have hH25 := (hH23.sub (List.Sublist.cons _ (List.Sublist.cons _ (List.Sublist.cons _ (List.Sublist.refl _)))))
          refine fin hH25 (fun w' hf => (res2 rfl (show RV _ _ _ (.tmp 4) _ from rfl) (show RV _ _ _ (.tmp 5) _ from rfl))) (fun w' hf => ?_)
          first | (rw [S.ap1 hcn]; exact ⟨_, rfl, own_nil⟩) | (rw [S.ap2 hc0 (by omega)]; exact ⟨_, rfl, own_nil⟩) | (rw [S.ap3 hc0 (by omega) hst]; exact ⟨_, rfl, own_nil⟩) | (rw [S.ap4 hc0 (by omega) hns hsm]; exact ⟨_, rfl, own_nil⟩) | (have hk2 : k = xs.length := (by omega); subst hk2; rw [S.ap5 hc0 (by omega) hns hnm]; have h9 := Heap.own hf (n := 0) rfl; rw [List.take_length] at h9; exact ⟨_, rfl, h9⟩)
        · skip
          have hnm : has S.same xs = false := (Bool.eq_false_iff.2 hc24)
          refine cond_f rfl (Bool.eq_false_iff.2 hc24) ?_
          refine skip (blk_n (thn_n (seq (seq (region (ops_y hH23 rfl rfl (yv_move rfl) ?_))))))
          refine ops_y hH23 rfl rfl (yv_len T.sl29 rfl (hx.now hH23 (n := 3) rfl).is) ?_
          refine ops_y hH23 rfl rfl (yv_move rfl) (ops_nil (thn_n (block ?_)))
          refine loop (S := Nat × Value × Nat × Nat) (fun (k, v_b6, lo_b6, hi_b6) => [(36, (.int .i64 (k : Int))), (4, (.slice none 0 0)), (5, (.int .i64 0)), (6, (.pointer (some ⟨b11, 0, none⟩))), (34, vx), (35, (.int .i64 (xs.length : Int)))]) (fun (k, v_b6, lo_b6, hi_b6) w1 => Heap [ow lo_b6 hi_b6 3 1 encI v_b6 (S.apl l (xs.take k)), bx b11 89 [v_b6], bx b1 22 [v], base w] w1 ∧ k ≤ xs.length) (fun (k, v_b6, lo_b6, hi_b6) => xs.length - k) (0, r12, g14, (g14 + 1)) (Sub.cons rfl (Sub.cons rfl (Sub.cons rfl (Sub.cons rfl (Sub.cons rfl (Sub.cons rfl (Sub.nil _))))))) ?_ ?_
          · exact ⟨(Heap.recast (n := 0) hH23 rfl (rfl)), by omega⟩
          · rintro ⟨k, v_b6, lo_b6, hi_b6⟩ w26 ⟨hH27, hk⟩
            show Holds _ _ _ _ _ [(36, (.int .i64 (k : Int))), (4, (.slice none 0 0)), (5, (.int .i64 0)), (6, (.pointer (some ⟨b11, 0, none⟩))), (34, vx), (35, (.int .i64 (xs.length : Int)))] _ _
            have hml : (S.apl l (xs.take k)).length = l.length := S.apl_length
            refine seq (region ?_)
            refine ops_y hH27 rfl rfl (yv_lss rfl rfl) ?_
            refine ops_nil (thn_n (seq ?_))
            by_cases hc28 : (k : Int) < (xs.length : Int)
            · skip
              have hsk := S.stray_at (l := l) (xs := xs) hns (k := k) (by omega)
              refine cond_t rfl (decide_eq_true hc28) ?_
              refine skip (thn_n (seq (block (seq (region ?_)))))
              refine ops_y hH27 rfl rfl (yv_index T.sl29 rfl rfl (hx.now hH27 (n := 3) rfl).is (by omega)) ?_
              refine ops_y hH27 rfl rfl (yv_loadA (cs := [(.int .i64 ((nth xs (k : Int)).1)), (.int .i64 ((nth xs (k : Int)).2))]) T.agg70 rfl rfl (fun _ hw => Rd.atA (hx.now hw (n := 3) rfl) (i := (k : Int)) (by omega))) ?_
              refine op_alloc (z := (.agg #[(.int .i64 0), (.int .i64 0)])) (us := [(.int .i64 0), (.int .i64 0)]) (fun _ => by kernel_rfl) rfl rfl hH27 (fun b29 w30 hH31 => ?_)
              refine op_store (n := 0) (j := 0) (us := [(.int .i64 ((nth xs (k : Int)).1)), (.int .i64 ((nth xs (k : Int)).2))]) rfl rfl hH31 rfl T.sz70 rfl rfl rfl (by rfl) (fun w32 hH33 => ?_)
              refine ops_nil (thn_n (region (ops_y hH33 rfl rfl (yv_move rfl) ?_)))
              refine ops_y hH33 rfl rfl (yv_indexA T.arr70 rfl rfl (by omega)) ?_
              refine ops_y hH33 rfl rfl (yv_load T.one3 rfl (fun _ hw => Heap.cellw hw (n := 0) rfl rfl)) ?_
              refine ops_y hH33 rfl rfl (yv_indexA T.arr70 rfl rfl (by omega)) ?_
              refine ops_y hH33 rfl rfl (yv_load T.one3 rfl (fun _ hw => Heap.cellw hw (n := 0) rfl rfl)) ?_
              obtain ⟨g34, hgb35, hgl36⟩ := Ow.blk (show Ow _ _ _ _ _ _ _ _ from hH33.get (n := 1) rfl) (by omega)
              refine op_fnM (g := g34) (n := 1) rfl rfl rfl hH33 rfl hgl36 (c83 (Heap.own hH33 (n := 1) rfl) hgb35 (Heap.bxw hH33 (n := 2) rfl) (Heap.ne hH33 (n := 1) (m := 2) rfl rfl hgl36 (by decide)) (by omega) (by omega) (by omega) (by omega) (by omega)) (fun u39 w37 hH38 hv40 => ?_)
              have hH41 := Heap.toOw hH38 (n := 1) rfl
              refine ops_nil (blk_n (thn_n (region ?_)))
              refine ops_y hH41 rfl rfl (yv_add rfl rfl (by omega)) ?_
              refine ops_y hH41 rfl rfl (yv_move rfl) (ops_nil ?_)
              have hH42 := (hH41.sub (List.Sublist.cons _ (List.Sublist.refl _)))
              refine lp_n (k + 1, v_b6, lo_b6, hi_b6) (Sub.cons rfl (Sub.cons rfl (Sub.cons rfl (Sub.cons rfl (Sub.cons rfl (Sub.cons rfl (Sub.nil _))))))) ?_ ?_
              · exact ⟨(Heap.recast (n := 0) hH42 rfl (S.apl_take (by omega))), by omega⟩
              · first | (dsimp only; omega) | (show _ < _; omega)
            · skip
              refine cond_f rfl (decide_eq_false hc28) ?_
              refine exit (thn_x (lp_x (blk_here (thn_n (seq (region (ops_y hH27 rfl rfl (yv_move rfl) ?_)))))))
              refine ops_y hH27 rfl rfl (yv_nilck rfl) ?_
              refine ops_y hH27 rfl rfl (yv_field T.f89_0 rfl) ?_
              refine ops_y hH27 rfl rfl (yv_field T.f87_0 rfl) ?_
              refine ops_y hH27 rfl rfl (yv_load T.one22 rfl (fun _ hw => Heap.cellw hw (n := 1) rfl rfl)) ?_
              refine ops_y hH27 rfl rfl (yv_assign rfl) (ops_y hH27 rfl rfl (yv_assign rfl) (ops_nil (thn_n (ret ?_))))
              have hH43 := (hH27.sub (List.Sublist.cons_cons _ (List.Sublist.cons _ (List.Sublist.cons _ (List.Sublist.refl _)))))
              refine fin (hH43.front (n := 1) rfl) (fun w' hf => (res2 rfl (show RV _ _ _ (.tmp 4) _ from rfl) (show RV _ _ _ (.tmp 5) _ from rfl))) (fun w' hf => ?_)
              first | (rw [S.ap1 hcn]; exact ⟨_, rfl, own_nil⟩) | (rw [S.ap2 hc0 (by omega)]; exact ⟨_, rfl, own_nil⟩) | (rw [S.ap3 hc0 (by omega) hst]; exact ⟨_, rfl, own_nil⟩) | (rw [S.ap4 hc0 (by omega) hns hsm]; exact ⟨_, rfl, own_nil⟩) | (have hk2 : k = xs.length := (by omega); subst hk2; rw [S.ap5 hc0 (by omega) hns hnm]; have h9 := Heap.own hf (n := 0) rfl; rw [List.take_length] at h9; exact ⟨_, rfl, h9⟩)
  · skip
    have hcn : ¬ S.check l 0 = 0 := ‹_›
    refine region ?_
    refine ops_y hH3 rfl rfl (yv_load T.one22 rfl (fun _ hw => Heap.cellw hw (n := 0) rfl rfl)) ?_
    refine op_fnV rfl rfl rfl hH3 (c72n (h0.now hH3 (n := 1) rfl) (by omega) hcn) (fun w44 hH45 => ?_)
    refine ops_y hH45 rfl rfl (yv_move rfl) (ops_y hH45 rfl rfl (yv_extract rfl rfl) (ops_y hH45 rfl rfl (yv_extract rfl rfl) (ops_y hH45 rfl rfl (yv_assign rfl) (ops_y hH45 rfl rfl (yv_assign rfl) (ops_nil (thn_n (seq (region ?_))))))))
    refine ops_y hH45 rfl rfl (yv_func rfl rfl) ?_
    refine ops_y hH45 rfl rfl (yv_assign rfl) (ops_nil (thn_n (seq (region (ops_y hH45 rfl rfl (yv_assign rfl) (ops_nil (thn_n (seq (block ?_)))))))))
    refine seq (region (ops_y hH45 rfl rfl (yv_move rfl) ?_))
    refine ops_y hH45 rfl rfl (yv_neq rfl rfl) ?_
    refine ops_y hH45 rfl rfl (yv_assign rfl) (ops_nil (thn_n ?_))
    have hc46 : ¬ ((S.check l 0) = 0) := hcn
    refine cond_t rfl (not_decide_t hc46) ?_
    refine seq (region (ops_y hH45 rfl rfl (yv_move rfl) (ops_y hH45 rfl rfl (yv_assign rfl) (ops_y hH45 rfl rfl (yv_assign rfl) (ops_nil (thn_n (ret (blk_r (thn_r ?_)))))))))
    have hH47 := (hH45.sub (List.Sublist.cons _ (List.Sublist.refl _)))
    refine fin hH47 (fun w' hf => (res2 rfl (show RV _ _ _ (.tmp 4) _ from rfl) (show RV _ _ _ (.tmp 5) _ from rfl))) (fun w' hf => ?_)
    first | (rw [S.ap1 hcn]; exact ⟨_, rfl, own_nil⟩) | (rw [S.ap2 hc0 (by omega)]; exact ⟨_, rfl, own_nil⟩) | (rw [S.ap3 hc0 (by omega) hst]; exact ⟨_, rfl, own_nil⟩) | (rw [S.ap4 hc0 (by omega) hns hsm]; exact ⟨_, rfl, own_nil⟩) | (have hk2 : k = xs.length := (by omega); subst hk2; rw [S.ap5 hc0 (by omega) hns hnm]; have h9 := Heap.own hf (n := 0) rfl; rw [List.take_length] at h9; exact ⟨_, rfl, h9⟩)

theorem c28 {v vx : Value} {l : List Int} {xs : List S.Pr} {w : World} (h0 : Rd encI 1 v l w) (hx : Rd encP 2 vx xs w) (hn : l.length ≤ 1000000) (hxn : xs.length ≤ 1000000)  :
    Fn Try.prog 28 [v, vx].toArray w (fun u w => ∃ q, u = .tuple #[q, .int .i64 (S.applyR l xs).2] ∧ Own 3 1 encI q (S.applyR l xs).1 w) := by
  refine fn_of' (args := [v, vx]) Try.func28 rfl (ent Try.func28 (by kernel_rfl) rfl) rfl rfl (fun hH => ?_)
  refine seq (region (ops_y hH rfl rfl (yv_assign rfl) (ops_y hH rfl rfl (yv_assign rfl) (ops_nil (thn_n (seq (seq ?_)))))))
  by_cases hc1 : S.check l 0 = 0
  · skip
    have hc0 : S.check l 0 = 0 := ‹_›
    have hj : S.J l := S.check_iff.1 hc0
    have hl1 := hj.1
    have hl10 := hj.2.1
    refine region (ops_y hH rfl rfl (yv_move rfl) ?_)
    refine op_fnV rfl rfl rfl hH (c24 (h0.now hH (n := 0) rfl) (by omega)) (fun w2 hH3 => ?_)
    refine ops_y hH3 rfl rfl (yv_neq rfl rfl) ?_
    refine ops_nil (thn_n ?_)
    have hc4 : ¬ (¬ ((S.check l 0) = 0)) := fun h => h hc0
    refine cond_f rfl (not_decide_f hc4) ?_
    refine skip (thn_n (seq (seq (region (ops_y hH3 rfl rfl (yv_move rfl) ?_)))))
    refine ops_y hH3 rfl rfl (yv_len T.sl29 rfl (hx.now hH3 (n := 0) rfl).is) ?_
    refine ops_y hH3 rfl rfl (yv_gtr rfl rfl) ?_
    refine ops_nil (thn_n ?_)
    by_cases hc5 : 60 < (xs.length : Int)
    · skip
      refine cond_t rfl (decide_eq_true hc5) ?_
      refine seq (region (ops_y hH3 rfl rfl (yv_assign rfl) (ops_y hH3 rfl rfl (yv_assign rfl) (ops_nil (thn_n (ret (thn_r ?_)))))))
      refine fin hH3 (fun w' hf => (res2 rfl (show RV _ _ _ (.tmp 4) _ from rfl) (show RV _ _ _ (.tmp 5) _ from rfl))) (fun w' hf => ?_)
      first | (rw [S.ap1 hcn]; exact ⟨_, rfl, own_nil⟩) | (rw [S.ap2 hc0 (by omega)]; exact ⟨_, rfl, own_nil⟩) | (rw [S.ap3 hc0 (by omega) hst]; exact ⟨_, rfl, own_nil⟩) | (rw [S.ap4 hc0 (by omega) hns hsm]; exact ⟨_, rfl, own_nil⟩) | (have hk2 : k = xs.length := (by omega); subst hk2; rw [S.ap5 hc0 (by omega) hns hnm]; have h9 := Heap.own hf (n := 0) rfl; rw [List.take_length] at h9; exact ⟨_, rfl, h9⟩)
    · skip
      refine cond_f rfl (decide_eq_false hc5) ?_
      refine skip (thn_n (seq (seq (region (ops_y hH3 rfl rfl (yv_assign rfl) (ops_nil (thn_n (block ?_))))))))
      refine loop (S := Nat) (fun k => [(6, (.int .i64 (k : Int))), (0, v), (1, vx)]) (fun k w1 => Heap [base w] w1 ∧ k ≤ xs.length ∧ ∀ i, i < k → S.stray (l.length : Int) (nth xs (i : Int)) = false) (fun k => xs.length - k) (0) (Sub.cons rfl (Sub.cons rfl (Sub.cons rfl (Sub.nil _)))) ?_ ?_
      · exact ⟨hH3, by omega, S.all_zero⟩
      · rintro k w6 ⟨hH7, hk, hall⟩
        show Holds _ _ _ _ _ [(6, (.int .i64 (k : Int))), (0, v), (1, vx)] _ _
        refine seq (seq (region (ops_y hH7 rfl rfl (yv_move rfl) (ops_y hH7 rfl rfl (yv_move rfl) ?_))))
        refine ops_y hH7 rfl rfl (yv_len T.sl29 rfl (hx.now hH7 (n := 0) rfl).is) ?_
        refine ops_y hH7 rfl rfl (yv_lss rfl rfl) ?_
        refine ops_nil (thn_n ?_)
        by_cases hc8 : (k : Int) < (xs.length : Int)
        · skip
          refine cond_t rfl (decide_eq_true hc8) ?_
          refine skip (thn_n (seq (block (seq ?_))))
          refine region_draw (fun w' => Heap [base w] w') T.mixed (fun w9 hr10 => ?_)
          have hH11 := hH7.redrawn hr10
          refine any_takes [0, 1, 2, 3, 4, 5, 6, 7, 8, 9, 10, 11] (by kernel_rfl) hH11 _ _ _ (by kernel_rfl) ?_
          refine qs_y rfl rfl (yv_move rfl) (qs_y rfl rfl (yv_move rfl) ?_)
          refine qs_y rfl rfl (yv_index T.sl29 rfl rfl (hx.now hH11 (n := 0) rfl).is (by omega)) ?_
          refine qs_y rfl rfl (yv_indexA T.arr70 rfl rfl (by omega)) ?_
          refine qs_y rfl rfl (yv_load T.one3 rfl (fun _ hw => Rd.at (hx.now hw (n := 0) rfl) (i := (k : Int)) (by omega) (j := 0) rfl)) ?_
          refine qs_y rfl rfl (yv_move rfl) (qs_y rfl rfl (yv_move rfl) ?_)
          refine qs_y rfl rfl (yv_index T.sl29 rfl rfl (hx.now hH11 (n := 0) rfl).is (by omega)) ?_
          refine qs_y rfl rfl (yv_indexA T.arr70 rfl rfl (by omega)) ?_
          refine qs_y rfl rfl (yv_load T.one3 rfl (fun _ hw => Rd.at (hx.now hw (n := 0) rfl) (i := (k : Int)) (by omega) (j := 1) rfl)) ?_
          refine qs_y rfl rfl (yv_assign rfl) (qs_y rfl rfl (yv_assign rfl) (qs_nil ?_))
          refine any_done (by kernel_rfl) ?_
          refine thn_n (seq (region (ops_y hH11 rfl rfl (yv_move rfl) ?_)))
          refine ops_y hH11 rfl rfl (yv_lss rfl rfl) ?_
          refine ops_y hH11 rfl rfl (yv_move rfl) ?_
          by_cases hc12 : ((nth xs (k : Int)).1) < 0
          · skip
            refine guard_no rfl rfl (decide_eq_true hc12) rfl ?_
            refine guard_no rfl rfl (decide_eq_true hc12) rfl ?_
            refine guard_no rfl rfl (decide_eq_true hc12) rfl ?_
            refine guard_no rfl rfl (decide_eq_true hc12) rfl ?_
            refine ops_y hH11 rfl rfl (yv_pick_t rfl (decide_eq_true hc12) rfl) ?_
            refine ops_y hH11 rfl rfl (yv_move rfl) (guard_no rfl rfl rfl rfl (guard_no rfl rfl rfl rfl ?_))
            refine ops_y hH11 rfl rfl (yv_pick_t rfl rfl rfl) ?_
            refine ops_y hH11 rfl rfl (yv_move rfl) (guard_no rfl rfl rfl rfl (guard_no rfl rfl rfl rfl (guard_no rfl rfl rfl rfl (guard_no rfl rfl rfl rfl ?_))))
            refine ops_y hH11 rfl rfl (yv_pick_t rfl rfl rfl) ?_
            refine ops_nil (thn_n ?_)
            refine cond_t rfl rfl ?_
            refine seq ?_
            have hst : has (S.stray (l.length : Int)) xs = true := has_t (k := k) (by omega) (by unfold S.stray; simp; omega)
            refine region (ops_y hH11 rfl rfl (yv_assign rfl) (ops_y hH11 rfl rfl (yv_assign rfl) (ops_nil (thn_n (ret (blk_r (thn_r (lp_r (blk_r ?_)))))))))
            refine thn_r ?_
            refine fin hH11 (fun w' hf => (res2 rfl (show RV _ _ _ (.tmp 4) _ from rfl) (show RV _ _ _ (.tmp 5) _ from rfl))) (fun w' hf => ?_)
            first | (rw [S.ap1 hcn]; exact ⟨_, rfl, own_nil⟩) | (rw [S.ap2 hc0 (by omega)]; exact ⟨_, rfl, own_nil⟩) | (rw [S.ap3 hc0 (by omega) hst]; exact ⟨_, rfl, own_nil⟩) | (rw [S.ap4 hc0 (by omega) hns hsm]; exact ⟨_, rfl, own_nil⟩) | (have hk2 : k = xs.length := (by omega); subst hk2; rw [S.ap5 hc0 (by omega) hns hnm]; have h9 := Heap.own hf (n := 0) rfl; rw [List.take_length] at h9; exact ⟨_, rfl, h9⟩)
          · skip
            refine guard_yes rfl rfl (decide_eq_false hc12) ?_
            refine ops_y hH11 rfl rfl (yv_move rfl) ?_
            refine guard_yes rfl rfl (decide_eq_false hc12) ?_
            refine ops_y hH11 rfl rfl (yv_move rfl) ?_
            refine guard_yes rfl rfl (decide_eq_false hc12) ?_
            refine ops_y hH11 rfl rfl (yv_len T.sl22 rfl (h0.now hH11 (n := 0) rfl).is) ?_
            refine guard_yes rfl rfl (decide_eq_false hc12) ?_
            refine ops_y hH11 rfl rfl (yv_geq rfl rfl) ?_
            refine ops_y hH11 rfl rfl (yv_pick_f rfl (decide_eq_false hc12) rfl) ?_
            refine ops_y hH11 rfl rfl (yv_move rfl) ?_
            by_cases hc13 : (l.length : Int) ≤ ((nth xs (k : Int)).1)
            · skip
              refine guard_no rfl rfl (decide_eq_true hc13) rfl ?_
              refine guard_no rfl rfl (decide_eq_true hc13) rfl ?_
              refine ops_y hH11 rfl rfl (yv_pick_t rfl (decide_eq_true hc13) rfl) ?_
              refine ops_y hH11 rfl rfl (yv_move rfl) (guard_no rfl rfl rfl rfl (guard_no rfl rfl rfl rfl (guard_no rfl rfl rfl rfl (guard_no rfl rfl rfl rfl ?_))))
              refine ops_y hH11 rfl rfl (yv_pick_t rfl rfl rfl) ?_
              refine ops_nil (thn_n ?_)
              refine cond_t rfl rfl ?_
              refine seq ?_
              have hst : has (S.stray (l.length : Int)) xs = true := has_t (k := k) (by omega) (by unfold S.stray; simp; omega)
              refine region (ops_y hH11 rfl rfl (yv_assign rfl) (ops_y hH11 rfl rfl (yv_assign rfl) (ops_nil (thn_n (ret (blk_r (thn_r (lp_r (blk_r ?_)))))))))
              refine thn_r ?_
              refine fin hH11 (fun w' hf => (res2 rfl (show RV _ _ _ (.tmp 4) _ from rfl) (show RV _ _ _ (.tmp 5) _ from rfl))) (fun w' hf => ?_)
              first | (rw [S.ap1 hcn]; exact ⟨_, rfl, own_nil⟩) | (rw [S.ap2 hc0 (by omega)]; exact ⟨_, rfl, own_nil⟩) | (rw [S.ap3 hc0 (by omega) hst]; exact ⟨_, rfl, own_nil⟩) | (rw [S.ap4 hc0 (by omega) hns hsm]; exact ⟨_, rfl, own_nil⟩) | (have hk2 : k = xs.length := (by omega); subst hk2; rw [S.ap5 hc0 (by omega) hns hnm]; have h9 := Heap.own hf (n := 0) rfl; rw [List.take_length] at h9; exact ⟨_, rfl, h9⟩)
            · skip
              refine guard_yes rfl rfl (decide_eq_false hc13) ?_
              refine ops_y hH11 rfl rfl (yv_move rfl) ?_
              refine guard_yes rfl rfl (decide_eq_false hc13) ?_
              refine ops_y hH11 rfl rfl (yv_lss rfl rfl) ?_
              refine ops_y hH11 rfl rfl (yv_pick_f rfl (decide_eq_false hc13) rfl) ?_
              refine ops_y hH11 rfl rfl (yv_move rfl) ?_
              by_cases hc14 : ((nth xs (k : Int)).2) < 0
              · skip
                refine guard_no rfl rfl (decide_eq_true hc14) rfl ?_
                refine guard_no rfl rfl (decide_eq_true hc14) rfl ?_
                refine guard_no rfl rfl (decide_eq_true hc14) rfl ?_
                refine guard_no rfl rfl (decide_eq_true hc14) rfl ?_
                refine ops_y hH11 rfl rfl (yv_pick_t rfl (decide_eq_true hc14) rfl) ?_
                refine ops_nil (thn_n ?_)
                refine cond_t rfl rfl ?_
                refine seq ?_
                have hst : has (S.stray (l.length : Int)) xs = true := has_t (k := k) (by omega) (by unfold S.stray; simp; omega)
                refine region (ops_y hH11 rfl rfl (yv_assign rfl) (ops_y hH11 rfl rfl (yv_assign rfl) (ops_nil (thn_n (ret (blk_r (thn_r (lp_r (blk_r ?_)))))))))
                refine thn_r ?_
                refine fin hH11 (fun w' hf => (res2 rfl (show RV _ _ _ (.tmp 4) _ from rfl) (show RV _ _ _ (.tmp 5) _ from rfl))) (fun w' hf => ?_)
                first | (rw [S.ap1 hcn]; exact ⟨_, rfl, own_nil⟩) | (rw [S.ap2 hc0 (by omega)]; exact ⟨_, rfl, own_nil⟩) | (rw [S.ap3 hc0 (by omega) hst]; exact ⟨_, rfl, own_nil⟩) | (rw [S.ap4 hc0 (by omega) hns hsm]; exact ⟨_, rfl, own_nil⟩) | (have hk2 : k = xs.length := (by omega); subst hk2; rw [S.ap5 hc0 (by omega) hns hnm]; have h9 := Heap.own hf (n := 0) rfl; rw [List.take_length] at h9; exact ⟨_, rfl, h9⟩)
              · skip
                refine guard_yes rfl rfl (decide_eq_false hc14) ?_
                refine ops_y hH11 rfl rfl (yv_move rfl) ?_
                refine guard_yes rfl rfl (decide_eq_false hc14) ?_
                refine ops_y hH11 rfl rfl (yv_move rfl) ?_
                refine guard_yes rfl rfl (decide_eq_false hc14) ?_
                refine ops_y hH11 rfl rfl (yv_len T.sl22 rfl (h0.now hH11 (n := 0) rfl).is) ?_
                refine guard_yes rfl rfl (decide_eq_false hc14) ?_
                refine ops_y hH11 rfl rfl (yv_geq rfl rfl) ?_
                refine ops_y hH11 rfl rfl (yv_pick_f rfl (decide_eq_false hc14) rfl) ?_
                refine ops_nil (thn_n ?_)
                by_cases hc15 : (l.length : Int) ≤ ((nth xs (k : Int)).2)
                · skip
                  refine cond_t rfl (decide_eq_true hc15) ?_
                  refine seq ?_
                  have hst : has (S.stray (l.length : Int)) xs = true := has_t (k := k) (by omega) (by unfold S.stray; simp; omega)
                  refine region (ops_y hH11 rfl rfl (yv_assign rfl) (ops_y hH11 rfl rfl (yv_assign rfl) (ops_nil (thn_n (ret (blk_r (thn_r (lp_r (blk_r ?_)))))))))
                  refine thn_r ?_
                  refine fin hH11 (fun w' hf => (res2 rfl (show RV _ _ _ (.tmp 4) _ from rfl) (show RV _ _ _ (.tmp 5) _ from rfl))) (fun w' hf => ?_)
                  first | (rw [S.ap1 hcn]; exact ⟨_, rfl, own_nil⟩) | (rw [S.ap2 hc0 (by omega)]; exact ⟨_, rfl, own_nil⟩) | (rw [S.ap3 hc0 (by omega) hst]; exact ⟨_, rfl, own_nil⟩) | (rw [S.ap4 hc0 (by omega) hns hsm]; exact ⟨_, rfl, own_nil⟩) | (have hk2 : k = xs.length := (by omega); subst hk2; rw [S.ap5 hc0 (by omega) hns hnm]; have h9 := Heap.own hf (n := 0) rfl; rw [List.take_length] at h9; exact ⟨_, rfl, h9⟩)
                · skip
                  refine cond_f rfl (decide_eq_false hc15) ?_
                  refine skip (blk_n (thn_n ?_))
                  have hp : S.stray (l.length : Int) (nth xs (k : Int)) = false := S.not_stray.2 ⟨⟨by omega, by omega⟩, by omega, by omega⟩
                  refine region (ops_y hH11 rfl rfl (yv_move rfl) ?_)
                  refine ops_y hH11 rfl rfl (yv_add rfl rfl (by omega)) ?_
                  refine ops_y hH11 rfl rfl (yv_assign rfl) (ops_nil ?_)
                  refine lp_n (k + 1) (Sub.cons rfl (Sub.cons rfl (Sub.cons rfl (Sub.nil _)))) ?_ ?_
                  · exact ⟨hH11, by omega, S.all_snoc hall hp⟩
                  · first | (dsimp only; omega) | (show _ < _; omega)
        · skip
          have hns : has (S.stray (l.length : Int)) xs = false := has_not.2 (fun i hi => hall i (by omega))
          refine cond_f rfl (decide_eq_false hc8) ?_
          refine exit (thn_x (lp_x (blk_here (thn_n (seq (seq (region (ops_y hH7 rfl rfl (yv_assign rfl) (ops_nil ?_)))))))))
          refine thn_n (block ?_)
          refine loop (S := Nat) (fun k => [(9, (.int .i64 (k : Int))), (0, v), (1, vx)]) (fun k w1 => Heap [base w] w1 ∧ k ≤ xs.length ∧ ∀ i, i < k → S.same (nth xs (i : Int)) = false) (fun k => xs.length - k) (0) (Sub.cons rfl (Sub.cons rfl (Sub.cons rfl (Sub.nil _)))) ?_ ?_
          · exact ⟨hH7, by omega, S.all_zero⟩
          · rintro k w16 ⟨hH17, hk, hall2⟩
            show Holds _ _ _ _ _ [(9, (.int .i64 (k : Int))), (0, v), (1, vx)] _ _
            refine seq (seq (region (ops_y hH17 rfl rfl (yv_move rfl) (ops_y hH17 rfl rfl (yv_move rfl) ?_))))
            refine ops_y hH17 rfl rfl (yv_len T.sl29 rfl (hx.now hH17 (n := 0) rfl).is) ?_
            refine ops_y hH17 rfl rfl (yv_lss rfl rfl) ?_
            refine ops_nil (thn_n ?_)
            by_cases hc18 : (k : Int) < (xs.length : Int)
            · skip
              refine cond_t rfl (decide_eq_true hc18) ?_
              refine skip (thn_n (seq (block (seq ?_))))
              refine region_draw (fun w' => Heap [base w] w') T.mixed (fun w19 hr20 => ?_)
              have hH21 := hH17.redrawn hr20
              refine any_takes [0, 1, 2, 3, 4, 5, 6, 7, 8, 9, 10] (by kernel_rfl) hH21 _ _ _ (by kernel_rfl) ?_
              refine qs_y rfl rfl (yv_move rfl) (qs_y rfl rfl (yv_move rfl) ?_)
              refine qs_y rfl rfl (yv_index T.sl29 rfl rfl (hx.now hH21 (n := 0) rfl).is (by omega)) ?_
              refine qs_y rfl rfl (yv_indexA T.arr70 rfl rfl (by omega)) ?_
              refine qs_y rfl rfl (yv_load T.one3 rfl (fun _ hw => Rd.at (hx.now hw (n := 0) rfl) (i := (k : Int)) (by omega) (j := 0) rfl)) ?_
              refine qs_y rfl rfl (yv_move rfl) (qs_y rfl rfl (yv_move rfl) ?_)
              refine qs_y rfl rfl (yv_index T.sl29 rfl rfl (hx.now hH21 (n := 0) rfl).is (by omega)) ?_
              refine qs_y rfl rfl (yv_indexA T.arr70 rfl rfl (by omega)) ?_
              refine qs_y rfl rfl (yv_load T.one3 rfl (fun _ hw => Rd.at (hx.now hw (n := 0) rfl) (i := (k : Int)) (by omega) (j := 1) rfl)) ?_
              refine qs_y rfl rfl (yv_eql rfl rfl) ?_
              refine qs_nil ?_
              refine any_done (by kernel_rfl) ?_
              refine thn_n ?_
              by_cases hc22 : ((nth xs (k : Int)).1) = ((nth xs (k : Int)).2)
              · skip
                have hsm : has S.same xs = true := has_t (k := k) (by omega) (decide_eq_true hc22)
                refine cond_t rfl (decide_eq_true hc22) ?_
                refine seq (region (ops_y hH21 rfl rfl (yv_assign rfl) (ops_y hH21 rfl rfl (yv_assign rfl) (ops_nil (thn_n (ret (blk_r (thn_r (lp_r ?_)))))))))
                refine blk_r (thn_r ?_)
                refine fin hH21 (fun w' hf => (res2 rfl (show RV _ _ _ (.tmp 4) _ from rfl) (show RV _ _ _ (.tmp 5) _ from rfl))) (fun w' hf => ?_)
                first | (rw [S.ap1 hcn]; exact ⟨_, rfl, own_nil⟩) | (rw [S.ap2 hc0 (by omega)]; exact ⟨_, rfl, own_nil⟩) | (rw [S.ap3 hc0 (by omega) hst]; exact ⟨_, rfl, own_nil⟩) | (rw [S.ap4 hc0 (by omega) hns hsm]; exact ⟨_, rfl, own_nil⟩) | (have hk2 : k = xs.length := (by omega); subst hk2; rw [S.ap5 hc0 (by omega) hns hnm]; have h9 := Heap.own hf (n := 0) rfl; rw [List.take_length] at h9; exact ⟨_, rfl, h9⟩)
              · skip
                have hp : S.same (nth xs (k : Int)) = false := (decide_eq_false hc22)
                refine cond_f rfl (decide_eq_false hc22) ?_
                refine skip (blk_n (thn_n (region (ops_y hH21 rfl rfl (yv_move rfl) ?_))))
                refine ops_y hH21 rfl rfl (yv_add rfl rfl (by omega)) ?_
                refine ops_y hH21 rfl rfl (yv_assign rfl) (ops_nil ?_)
                refine lp_n (k + 1) (Sub.cons rfl (Sub.cons rfl (Sub.cons rfl (Sub.nil _)))) ?_ ?_
                · exact ⟨hH21, by omega, S.all_snoc hall2 hp⟩
                · first | (dsimp only; omega) | (show _ < _; omega)
            · skip
              have hnm : has S.same xs = false := has_not.2 (fun i hi => hall2 i (by omega))
              refine cond_f rfl (decide_eq_false hc18) ?_
              refine exit (thn_x (lp_x (blk_here (thn_n (seq (region (ops_y hH17 rfl rfl (yv_move rfl) ?_)))))))
              refine op_fn rfl rfl rfl hH17 (c60 (h0.now hH17 (n := 0) rfl) (by omega)) (fun u25 w23 lo26 hi27 hH24 hv28 => ?_)
              have hH29 := Heap.toOw hH24 (n := 0) rfl
              refine ops_y hH29 rfl rfl (yv_assign rfl) (ops_nil (thn_n (seq (seq (region (ops_y hH29 rfl rfl (yv_assign rfl) (ops_nil (thn_n (block ?_)))))))))
              refine loop (S := Nat × Value × Nat × Nat) (fun (k, v_10, lo_10, hi_10) => [(11, (.int .i64 (k : Int))), (10, v_10), (1, vx)]) (fun (k, v_10, lo_10, hi_10) w1 => Heap [ow lo_10 hi_10 3 1 encI v_10 (S.apl l (xs.take k)), base w] w1 ∧ k ≤ xs.length) (fun (k, v_10, lo_10, hi_10) => xs.length - k) (0, u25, lo26, hi27) (Sub.cons rfl (Sub.cons rfl (Sub.cons rfl (Sub.nil _)))) ?_ ?_
              · exact ⟨(Heap.recast (n := 0) hH29 rfl (rfl)), by omega⟩
              · rintro ⟨k, v_10, lo_10, hi_10⟩ w30 ⟨hH31, hk⟩
                show Holds _ _ _ _ _ [(11, (.int .i64 (k : Int))), (10, v_10), (1, vx)] _ _
                have hml : (S.apl l (xs.take k)).length = l.length := S.apl_length
                refine seq (seq (region (ops_y hH31 rfl rfl (yv_move rfl) (ops_y hH31 rfl rfl (yv_move rfl) ?_))))
                refine ops_y hH31 rfl rfl (yv_len T.sl29 rfl (hx.now hH31 (n := 1) rfl).is) ?_
                refine ops_y hH31 rfl rfl (yv_lss rfl rfl) ?_
                refine ops_nil (thn_n ?_)
                by_cases hc32 : (k : Int) < (xs.length : Int)
                · skip
                  have hsk := S.stray_at (l := l) (xs := xs) hns (k := k) (by omega)
                  have hsl : ((S.apl l (xs.take k)).set ((nth xs (k : Int)).1).toNat (nth (S.apl l (xs.take k)) (nth xs (k : Int)).2)).length = l.length := (List.length_set).trans hml
                  refine cond_t rfl (decide_eq_true hc32) ?_
                  refine skip (thn_n (seq (block (seq ?_))))
                  refine region_draw (fun w' => Heap [ow lo_10 hi_10 3 1 encI v_10 (S.apl l (xs.take k)), base w] w') T.mixed (fun w33 hr34 => ?_)
                  have hH35 := hH31.redrawn hr34
                  refine any_takes [0, 1, 2, 3, 4, 5, 6, 7, 8, 9, 10, 11] (by kernel_rfl) hH35 _ _ _ (by kernel_rfl) ?_
                  refine qs_y rfl rfl (yv_move rfl) (qs_y rfl rfl (yv_move rfl) ?_)
                  refine qs_y rfl rfl (yv_index T.sl29 rfl rfl (hx.now hH35 (n := 1) rfl).is (by omega)) ?_
                  refine qs_y rfl rfl (yv_indexA T.arr70 rfl rfl (by omega)) ?_
                  refine qs_y rfl rfl (yv_load T.one3 rfl (fun _ hw => Rd.at (hx.now hw (n := 1) rfl) (i := (k : Int)) (by omega) (j := 0) rfl)) ?_
                  refine qs_y rfl rfl (yv_move rfl) (qs_y rfl rfl (yv_move rfl) ?_)
                  refine qs_y rfl rfl (yv_index T.sl29 rfl rfl (hx.now hH35 (n := 1) rfl).is (by omega)) ?_
                  refine qs_y rfl rfl (yv_indexA T.arr70 rfl rfl (by omega)) ?_
                  refine qs_y rfl rfl (yv_load T.one3 rfl (fun _ hw => Rd.at (hx.now hw (n := 1) rfl) (i := (k : Int)) (by omega) (j := 1) rfl)) ?_
                  refine qs_y rfl rfl (yv_assign rfl) (qs_y rfl rfl (yv_assign rfl) (qs_nil ?_))
                  refine any_done (by kernel_rfl) ?_
                  refine thn_n ?_
                  refine region_drawY (fun w' => Heap [ow lo_10 hi_10 3 1 encI v_10 (S.apl l (xs.take k)), base w] w') [13, 15] T.mixed (fun w36 hr37 => ?_)
                  have hH38 := hH35.redrawn hr37
                  refine any_takesT [0, 1, 2, 3, 4, 5, 6, 8, 9, 10] (by kernel_rfl)  _ _ _ (by kernel_rfl) ?_
                  refine qs_y rfl rfl (yv_move rfl) (qs_y rfl rfl (yv_move rfl) (qs_y rfl rfl (yv_move rfl) (qs_y rfl rfl (yv_move rfl) (qs_y rfl rfl (yv_move rfl) (qs_y rfl rfl (yv_move rfl) ?_)))))
                  refine qs_y rfl rfl (yv_index T.sl22 rfl rfl (Heap.rdw T.el22_encI hH38 (n := 0) rfl).is (by omega)) ?_
                  refine qs_y rfl rfl (yv_move rfl) (qs_y rfl rfl (yv_move rfl) ?_)
                  refine qs_y rfl rfl (yv_index T.sl22 rfl rfl (Heap.rdw T.el22_encI hH38 (n := 0) rfl).is (by omega)) ?_
                  refine qs_nil ?_
                  refine any_takesY [7, 11] (by kernel_rfl) hH38 _ _ _ (by kernel_rfl) ?_
                  refine qs_y rfl rfl (yv_load T.one3 rfl (fun _ hw => Rd.at (Heap.rdw T.el22_encI hw (n := 0) rfl) (i := (nth xs (k : Int)).2) (by omega) (j := 0) rfl)) ?_
                  refine qs_y rfl rfl (yv_load T.one3 rfl (fun _ hw => Rd.at (Heap.rdw T.el22_encI hw (n := 0) rfl) (i := (nth xs (k : Int)).1) (by omega) (j := 0) rfl)) ?_
                  refine qs_nil ?_
                  refine any_takesT [12] (by kernel_rfl)  _ _ _ (by kernel_rfl) ?_
                  refine qs_y rfl rfl (yv_index T.sl22 rfl rfl (Heap.rdw T.el22_encI hH38 (n := 0) rfl).is (by omega)) ?_
                  refine qs_nil ?_
                  refine any_allY [13] (by kernel_rfl) rfl ?_
                  refine ⟨⟨_, rfl, ?_⟩, trivial⟩
                  · skip
                    refine op_setE (n := 0) (i := (nth xs (k : Int)).1) (k := 0) (us := [(.int .i64 (nth (S.apl l (xs.take k)) ((nth xs (k : Int)).2)))]) (z := nth (S.apl l (xs.take k)) ((nth xs (k : Int)).2)) T.el22_encI rfl rfl hH38 rfl (by omega) T.sz3 rfl rfl rfl (Nat.le_of_ble_eq_true rfl) (fun w39 hH40 => ?_)
                    refine ops_nil ?_
                    refine ⟨(fun h => by cases h), ?_⟩
                    refine any_takesT [14] (by kernel_rfl)  _ _ _ (by kernel_rfl) ?_
                    refine qs_y rfl rfl (yv_index T.sl22 rfl rfl (Heap.rdw T.el22_encI hH40 (n := 0) rfl).is (by omega)) ?_
                    refine qs_nil ?_
                    refine any_allY [15] (by kernel_rfl) rfl ?_
                    refine ⟨⟨_, rfl, ?_⟩, trivial⟩
                    · skip
                      refine op_setE (n := 0) (i := (nth xs (k : Int)).2) (k := 0) (us := [(.int .i64 (nth (S.apl l (xs.take k)) ((nth xs (k : Int)).1)))]) (z := nth (S.apl l (xs.take k)) ((nth xs (k : Int)).1)) T.el22_encI rfl rfl hH40 rfl (by omega) T.sz3 rfl rfl rfl (Nat.le_of_ble_eq_true rfl) (fun w41 hH42 => ?_)
                      refine ops_nil ?_
                      refine ⟨(fun h => by cases h), ?_⟩
                      refine any_doneY (by kernel_rfl) ?_
                      refine blk_n (thn_n (region (ops_y hH42 rfl rfl (yv_move rfl) ?_)))
                      refine ops_y hH42 rfl rfl (yv_add rfl rfl (by omega)) ?_
                      refine ops_y hH42 rfl rfl (yv_assign rfl) (ops_nil ?_)
                      refine lp_n (k + 1, v_10, lo_10, hi_10) (Sub.cons rfl (Sub.cons rfl (Sub.cons rfl (Sub.nil _)))) ?_ ?_
                      · exact ⟨(Heap.recast (n := 0) hH42 rfl (S.apl_take (by omega))), by omega⟩
                      · first | (dsimp only; omega) | (show _ < _; omega)
                · skip
                  refine cond_f rfl (decide_eq_false hc32) ?_
                  refine exit (thn_x (lp_x (blk_here (thn_n (seq (region (ops_y hH31 rfl rfl (yv_move rfl) (ops_y hH31 rfl rfl (yv_assign rfl) (ops_y hH31 rfl rfl (yv_assign rfl) ?_)))))))))
                  refine ops_nil (thn_n (ret ?_))
                  refine fin (hH31.front (n := 1) rfl) (fun w' hf => (res2 rfl (show RV _ _ _ (.tmp 4) _ from rfl) (show RV _ _ _ (.tmp 5) _ from rfl))) (fun w' hf => ?_)
                  first | (rw [S.ap1 hcn]; exact ⟨_, rfl, own_nil⟩) | (rw [S.ap2 hc0 (by omega)]; exact ⟨_, rfl, own_nil⟩) | (rw [S.ap3 hc0 (by omega) hst]; exact ⟨_, rfl, own_nil⟩) | (rw [S.ap4 hc0 (by omega) hns hsm]; exact ⟨_, rfl, own_nil⟩) | (have hk2 : k = xs.length := (by omega); subst hk2; rw [S.ap5 hc0 (by omega) hns hnm]; have h9 := Heap.own hf (n := 0) rfl; rw [List.take_length] at h9; exact ⟨_, rfl, h9⟩)
  · skip
    have hcn : ¬ S.check l 0 = 0 := ‹_›
    refine region (ops_y hH rfl rfl (yv_move rfl) ?_)
    refine op_fnV rfl rfl rfl hH (c24 (h0.now hH (n := 0) rfl) (by omega)) (fun w43 hH44 => ?_)
    refine ops_y hH44 rfl rfl (yv_neq rfl rfl) ?_
    refine ops_nil (thn_n ?_)
    have hc45 : ¬ ((S.check l 0) = 0) := hcn
    refine cond_t rfl (not_decide_t hc45) ?_
    refine seq (region (ops_y hH44 rfl rfl (yv_move rfl) ?_))
    refine op_fnV rfl rfl rfl hH44 (c24 (h0.now hH44 (n := 0) rfl) (by omega)) (fun w46 hH47 => ?_)
    refine ops_y hH47 rfl rfl (yv_assign rfl) (ops_y hH47 rfl rfl (yv_assign rfl) (ops_nil (thn_n (ret (thn_r ?_)))))
    refine fin hH47 (fun w' hf => (res2 rfl (show RV _ _ _ (.tmp 4) _ from rfl) (show RV _ _ _ (.tmp 5) _ from rfl))) (fun w' hf => ?_)
    first | (rw [S.ap1 hcn]; exact ⟨_, rfl, own_nil⟩) | (rw [S.ap2 hc0 (by omega)]; exact ⟨_, rfl, own_nil⟩) | (rw [S.ap3 hc0 (by omega) hst]; exact ⟨_, rfl, own_nil⟩) | (rw [S.ap4 hc0 (by omega) hns hsm]; exact ⟨_, rfl, own_nil⟩) | (have hk2 : k = xs.length := (by omega); subst hk2; rw [S.ap5 hc0 (by omega) hns hnm]; have h9 := Heap.own hf (n := 0) rfl; rw [List.take_length] at h9; exact ⟨_, rfl, h9⟩)

end Go.Fip

set_option linter.unusedVariables false
set_option linter.unusedSimpArgs false
set_option linter.unusedSectionVars false
set_option linter.unnecessarySimpa false
namespace Go.Fip
open Go.Proofs Go.RowKit

theorem T.el25_encS : El Try.prog 25 22 1 encS := el_of (z := (.slice none 0 0)) (bytes := 24) (by kernel_rfl) (by kernel_rfl) rfl rfl rfl (fun _ => rfl) (by simp [encS, sv, Value.oneCell'])
namespace S
def circTos (l : List Int) (k : Nat) : List (List Int) := ((List.range k).filter fun i : Nat => isMin l (i : Int)).map fun i : Nat => circ l (i : Int)
theorem circTos_t {l : List Int} {k : Nat} (h : isMin l (k : Int) = true) : circTos l (k + 1) = circTos l k ++ [circ l (k : Int)] := by simp [circTos, List.range_succ, h]
theorem circTos_f {l : List Int} {k : Nat} (h : ¬ isMin l (k : Int) = true) : circTos l (k + 1) = circTos l k := by simp [circTos, List.range_succ, h]
theorem circTos_len {l : List Int} {k : Nat} : (circTos l k).length ≤ k := by
  unfold circTos
  rw [List.length_map]
  have := List.length_filter_le (fun i : Nat => isMin l (i : Int)) (List.range k)
  simpa using this
def circAt (l : List Int) (i : Nat) : List Int := circ l (((mins l).getD i 0 : Nat) : Int)
def circR (l : List Int) : List (List Int) × Int := if check l 0 ≠ 0 then ([], check l 0) else (circles l, 0)
theorem ci1 {l : List Int} (h : ¬ check l 0 = 0) : circR l = ([], check l 0) := if_pos h
theorem ci2 {l : List Int} (h : check l 0 = 0) : circR l = (circles l, 0) := if_neg fun k => k h
theorem circAt_all {l : List Int} : (List.range (cyc l)).map (circAt l) = circles l := by
  unfold circles cyc
  refine List.ext_getElem (by simp) fun i h1 h2 => ?_
  simp at h1
  simp [circAt, List.getD_eq_getElem?_getD, h1]
theorem circles_len {l : List Int} : (circles l).length = cyc l := by simp [circles, cyc]
end S
theorem snd_snoc {Rs : List RwI} {r : RwI} {f : RwI → List Int} {X Y : List (List Int)} {y : List Int} (h : Rs.map f = X) (hy : Y = X ++ [y]) (hr : f r = y) : (Rs ++ [r]).map f = Y := by
  rw [hy, ← h, ← hr]; simp
theorem hd_snoc {Rs : List RwI} {r : RwI} {s : Hd} (h : s = r.s) : Rs.map (·.s) ++ [s] = (Rs ++ [r]).map (·.s) := by rw [h]; simp

theorem c75 {v : Value} {l : List Int} {w : World} (h0 : Rd encI 1 v l w) (hj : S.J l)  :
    Fn Try.prog 75 [v].toArray w (fun u w => ∃ TT, RowsAt u TT (S.circles l) w) := by
  refine fn_of' (args := [v]) Try.func75 rfl (ent Try.func75 (by kernel_rfl) rfl) rfl rfl (fun hH => ?_)
  have hl10 := hj.2.1
  refine seq (region (ops_y hH rfl rfl (yv_assign rfl) (ops_nil (thn_n (seq (region (ops_y hH rfl rfl (yv_assign rfl) (ops_nil (thn_n ?_)))))))))
  refine seq (seq (region (ops_y hH rfl rfl (yv_assign rfl) (ops_nil (thn_n (block ?_))))))
  have hH1 := ow_nil (enc := encS) 22 1 hH
  refine loop (S := Nat × List RwI × Value × Nat × Nat) (fun (k, Rs, v_3, lo_3, hi_3) => [(4, (.int .i64 (k : Int))), (3, v_3), (0, v), (2, (.slice none 0 0))]) (fun (k, Rs, v_3, lo_3, hi_3) w1 => Heap ([ow lo_3 hi_3 22 1 encS v_3 (Rs.map (·.s)), base w] ++ Rs.map rowI) w1 ∧ k ≤ l.length ∧ Rs.map (·.l) = S.circTos l k) (fun (k, Rs, v_3, lo_3, hi_3) => l.length - k) (0, [], (.slice none 0 0), w.heap.size, w.heap.size) (Sub.cons rfl (Sub.cons rfl (Sub.cons rfl (Sub.cons rfl (Sub.nil _))))) ?_ ?_
  · exact ⟨(Heap.recast (n := 0) hH1 rfl (rfl)), by omega, rfl⟩
  · rintro ⟨k, Rs, v_3, lo_3, hi_3⟩ w2 ⟨hH3, hk, hR⟩
    show Holds _ _ _ _ _ [(4, (.int .i64 (k : Int))), (3, v_3), (0, v), (2, (.slice none 0 0))] _ _
    have hRl : (Rs.map (·.s)).length ≤ k := by have h1 := congrArg List.length hR; have h2 := S.circTos_len (l := l) (k := k); simp at h1 ⊢; omega
    refine seq (seq (region (ops_y hH3 rfl rfl (yv_move rfl) (ops_y hH3 rfl rfl (yv_move rfl) ?_))))
    refine ops_y hH3 rfl rfl (yv_len T.sl22 rfl (h0.now hH3 (n := 1) rfl).is) ?_
    refine ops_y hH3 rfl rfl (yv_lss rfl rfl) ?_
    refine ops_nil (thn_n ?_)
    by_cases hc4 : (k : Int) < (l.length : Int)
    · skip
      refine cond_t rfl (decide_eq_true hc4) ?_
      refine skip (thn_n (seq (block (seq (region (ops_y hH3 rfl rfl (yv_move rfl) (ops_y hH3 rfl rfl (yv_move rfl) ?_)))))))
      refine op_fn rfl rfl rfl hH3 (c95 (h0.now hH3 (n := 1) rfl) hj (by omega) (by omega)) (fun u7 w5 lo8 hi9 hH6 hv10 => ?_)
      have hH11 := Heap.toOw hH6 (n := 0) rfl
      refine ops_y hH11 rfl rfl (yv_assign rfl) (ops_nil (thn_n (seq ?_)))
      have hcl := S.circ_length (l := l) (a := (k : Int))
      have hpp := S.per_pos (l := l) (a := (k : Int))
      have hpl := (hj.per_at (a := (k : Int)) (by omega) (by omega)).2
      refine region (ops_y hH11 rfl rfl (yv_move rfl) ?_)
      refine op_fnV rfl rfl rfl hH11 (c107 (Heap.rdw T.el22_encI hH11 (n := 0) rfl) (by omega) (by omega)) (fun w12 hH13 => ?_)
      refine ops_y hH13 rfl rfl (yv_move rfl) ?_
      refine ops_y hH13 rfl rfl (yv_eql rfl rfl) ?_
      refine ops_nil (thn_n ?_)
      by_cases hc14 : (S.leastTo (S.circ l (k : Int)) (S.circ l (k : Int)).length) = (k : Int)
      · skip
        have hmin : S.isMin l (k : Int) = true := S.J.least_circ.1 ‹_›
        refine cond_t rfl (decide_eq_true hc14) ?_
        refine region (ops_y hH13 rfl rfl (yv_move rfl) (ops_y hH13 rfl rfl (yv_move rfl) ?_))
        obtain ⟨s15, hs16⟩ := Heap.sv hH13 (n := 0) rfl (by omega)
        refine op_lit (us := [(0, u7)]) T.el25_encS [s15] rfl (by decide) rfl (fun a ha => by simp [ha.ev (show ev _ (.tmp 20) = some _ from rfl)]) (fun w => by rw [hs16]; kernel_rfl) hH13 (fun u17 lo19 hi20 w18 hH21 => ?_)
        refine op_append (n := 2) T.el25_encS rfl rfl rfl hH21 rfl (Heap.rdw T.el25_encS hH21 (n := 0) rfl) (by first | omega | (simp only [List.length_append, List.length_cons, List.length_nil]; omega)) (fun u22 lo24 hi25 w23 hH26 => ?_)
        refine ops_y hH26 rfl rfl (yv_assign rfl) (ops_nil (blk_n (thn_n (region (ops_y hH26 rfl rfl (yv_move rfl) ?_)))))
        refine ops_y hH26 rfl rfl (yv_add rfl rfl (by omega)) ?_
        refine ops_y hH26 rfl rfl (yv_assign rfl) (ops_nil ?_)
        have hH27 := (hH26.sub (List.Sublist.cons _ (List.Sublist.refl _)))
        have hH28 := Heap.totail (L := [ow lo24 hi25 22 1 encS u22 ((Rs.map (·.s)) ++ [s15]), base w]) hH27 hs16
        refine lp_n (k + 1, (Rs ++ [RwI.mk lo8 hi9 s15 (S.circ l (k : Int))]), u22, lo24, hi25) (Sub.cons rfl (Sub.cons rfl (Sub.cons rfl (Sub.cons rfl (Sub.nil _))))) ?_ ?_
        · exact ⟨(Heap.recast (n := 0) hH28 rfl (by first | exact hd_snoc rfl | rfl)), by omega, snd_snoc hR (S.circTos_t hmin) rfl⟩
        · first | (dsimp only; omega) | (show _ < _; omega)
      · skip
        have hmin2 : ¬ S.isMin l (k : Int) = true := fun h => ‹¬ _› (S.J.least_circ.2 h)
        refine cond_f rfl (decide_eq_false hc14) ?_
        refine skip (blk_n (thn_n (region (ops_y hH13 rfl rfl (yv_move rfl) ?_))))
        refine ops_y hH13 rfl rfl (yv_add rfl rfl (by omega)) ?_
        refine ops_y hH13 rfl rfl (yv_assign rfl) (ops_nil ?_)
        have hH29 := (hH13.sub (List.Sublist.cons _ (List.Sublist.refl _)))
        refine lp_n (k + 1, Rs, v_3, lo_3, hi_3) (Sub.cons rfl (Sub.cons rfl (Sub.cons rfl (Sub.cons rfl (Sub.nil _))))) ?_ ?_
        · exact ⟨(Heap.recast (n := 0) hH29 rfl (by first | exact hd_snoc rfl | rfl)), by omega, hR.trans (S.circTos_f hmin2).symm⟩
        · first | (dsimp only; omega) | (show _ < _; omega)
    · skip
      refine cond_f rfl (decide_eq_false hc4) ?_
      refine exit (thn_x (lp_x (blk_here (thn_n (seq (region (ops_y hH3 rfl rfl (yv_move rfl) (ops_y hH3 rfl rfl (yv_assign rfl) (ops_nil ?_)))))))))
      refine thn_n (ret ?_)
      refine fin (hH3.front (n := 1) rfl) (fun w' hf => (res1 rfl (show RV _ _ _ (.tmp 2) _ from rfl))) (fun w' hf => ?_)
      have hk2 : k = l.length := by omega
      subst hk2; refine ⟨Rs.map (·.s), ?_⟩; rw [show S.circles l = Rs.map (·.l) from hR.symm]; exact rows_of_tail T.el25_encS T.el22_encI hf

theorem ext_any {α : Type} [Inhabited α] {l m : List α} (hl : l.length = m.length) (h : ∀ i, i < l.length → nth l (i : Int) = nth m (i : Int)) : l = m :=
  List.ext_getElem hl fun i h1 h2 => by have := h i h1; rwa [nth_nat h1, nth_nat h2] at this
theorem pr_of {x y : Int × Int} (h : [x.1, x.2] = [y.1, y.2]) : x = y := by
  simp only [List.cons.injEq, and_true] at h
  exact Prod.ext h.1 h.2
theorem rowsC {P : Program} {f : FuncId} {args : Array Value} {w : World} {RR QQ : List (List Int)} (h : Fn P f args w (fun u w => ∃ TT, RowsAt u TT RR w)) (e : RR = QQ) : Fn P f args w (fun u w => ∃ TT, RowsAt u TT QQ w) := e ▸ h

theorem c25 {ua ub : Value} {T1 T2 : List Hd} {R1 R2 : List (List Int)} {w : World} (ha : RowsAt ua T1 R1 w) (hb : RowsAt ub T2 R2 w) (hn1 : R1.length ≤ 1000000) (hn2 : R2.length ≤ 1000000) (he1 : ∀ i : Nat, i < R1.length → (nth R1 (i : Int)).length ≤ 1000000) (he2 : ∀ i : Nat, i < R2.length → (nth R2 (i : Int)).length ≤ 1000000)  :
    Fn Try.prog 25 [ua, ub].toArray w (fun u _ => u = .bool (decide (R1 = R2))) := by
  refine fn_of' (args := [ua, ub]) Try.func25 rfl (ent Try.func25 (by kernel_rfl) rfl) rfl rfl (fun hH => ?_)
  have hl1 := ha.2.1
  have hl2 := hb.2.1
  refine seq (region (ops_y hH rfl rfl (yv_assign rfl) (ops_nil (thn_n (seq (seq (region (ops_y hH rfl rfl (yv_move rfl) ?_))))))))
  refine ops_y hH rfl rfl (yv_len T.sl25 rfl ((ha.now hH (n := 0) rfl).1).is) ?_
  refine ops_y hH rfl rfl (yv_move rfl) ?_
  refine ops_y hH rfl rfl (yv_len T.sl25 rfl ((hb.now hH (n := 0) rfl).1).is) ?_
  refine ops_y hH rfl rfl (yv_neq rfl rfl) ?_
  refine ops_nil (thn_n ?_)
  by_cases hc1 : (T1.length : Int) = (T2.length : Int)
  · skip
    refine cond_f rfl (not_decide_n hc1) ?_
    refine skip (thn_n (seq (seq (region (ops_y hH rfl rfl (yv_assign rfl) (ops_nil (thn_n (block ?_))))))))
    refine loop (S := Nat) (fun k => [(5, (.int .i64 (k : Int))), (0, ua), (1, ub)]) (fun k w1 => Heap [base w] w1 ∧ k ≤ R1.length ∧ ∀ i, i < k → nth R1 (i : Int) = nth R2 (i : Int)) (fun k => R1.length - k) (0) (Sub.cons rfl (Sub.cons rfl (Sub.cons rfl (Sub.nil _)))) ?_ ?_
    · exact ⟨hH, by omega, S.all_zero⟩
    · rintro k w2 ⟨hH3, hk, hall⟩
      show Holds _ _ _ _ _ [(5, (.int .i64 (k : Int))), (0, ua), (1, ub)] _ _
      refine seq (seq (region (ops_y hH3 rfl rfl (yv_move rfl) (ops_y hH3 rfl rfl (yv_move rfl) ?_))))
      refine ops_y hH3 rfl rfl (yv_len T.sl25 rfl ((ha.now hH3 (n := 0) rfl).1).is) ?_
      refine ops_y hH3 rfl rfl (yv_lss rfl rfl) ?_
      refine ops_nil (thn_n ?_)
      by_cases hc4 : (k : Int) < (T1.length : Int)
      · skip
        refine cond_t rfl (decide_eq_true hc4) ?_
        refine skip (thn_n (seq (block (seq ?_))))
        have hq1 := he1 k (by omega)
        have hq2 := he2 k (by omega)
        refine region_draw (fun w' => Heap [base w] w') T.mixed (fun w5 hr6 => ?_)
        have hH7 := hH3.redrawn hr6
        refine any_takes [0, 1, 2, 3, 4, 5, 6, 7] (by kernel_rfl) hH7 _ _ _ (by kernel_rfl) ?_
        refine qs_y rfl rfl (yv_move rfl) (qs_y rfl rfl (yv_move rfl) ?_)
        refine qs_y rfl rfl (yv_index T.sl25 rfl rfl ((ha.now hH7 (n := 0) rfl).1).is (by omega)) ?_
        refine qs_y rfl rfl (yv_load T.one22 rfl (fun _ hw => Rd.at ((ha.now hw (n := 0) rfl).1) (i := (k : Int)) (by omega) (j := 0) rfl)) ?_
        refine qs_y rfl rfl (yv_move rfl) (qs_y rfl rfl (yv_move rfl) ?_)
        refine qs_y rfl rfl (yv_index T.sl25 rfl rfl ((hb.now hH7 (n := 0) rfl).1).is (by omega)) ?_
        refine qs_y rfl rfl (yv_load T.one22 rfl (fun _ hw => Rd.at ((hb.now hw (n := 0) rfl).1) (i := (k : Int)) (by omega) (j := 0) rfl)) ?_
        refine qs_nil ?_
        refine any_all [8] (by kernel_rfl) rfl ?_
        refine ⟨⟨_, rfl, ?_⟩, trivial⟩
        · skip
          refine op_fnV rfl rfl rfl hH7 (c33 (RowsAt.at (ha.now hH7 (n := 0) rfl) (by omega) (by omega)) (RowsAt.at (hb.now hH7 (n := 0) rfl) (by omega) (by omega)) (by omega) (by omega)) (fun w8 hH9 => ?_)
          refine ops_nil ?_
          refine ⟨hH9, ?_⟩
          refine any_takes [9] (by kernel_rfl) hH9 _ _ _ (by kernel_rfl) ?_
          refine qs_y rfl rfl (yv_not rfl) ?_
          refine qs_nil ?_
          refine any_done (by kernel_rfl) ?_
          refine thn_n ?_
          by_cases hc10 : (nth R1 (k : Int)) = (nth R2 (k : Int))
          · skip
            have hp : nth R1 (k : Int) = nth R2 (k : Int) := by simpa using (not_decide_n hc10)
            refine cond_f rfl (not_decide_n hc10) ?_
            refine skip (blk_n (thn_n (region (ops_y hH9 rfl rfl (yv_move rfl) ?_))))
            refine ops_y hH9 rfl rfl (yv_add rfl rfl (by omega)) ?_
            refine ops_y hH9 rfl rfl (yv_assign rfl) (ops_nil ?_)
            refine lp_n (k + 1) (Sub.cons rfl (Sub.cons rfl (Sub.cons rfl (Sub.nil _)))) ?_ ?_
            · exact ⟨hH9, by omega, S.all_snoc hall hp⟩
            · first | (dsimp only; omega) | (show _ < _; omega)
          · skip
            have hp : ¬ nth R1 (k : Int) = nth R2 (k : Int) := by simpa using (not_decide_t hc10)
            refine cond_t rfl (not_decide_t hc10) ?_
            refine seq (region (ops_y hH9 rfl rfl (yv_assign rfl) (ops_nil (thn_n (ret (blk_r (thn_r (lp_r (blk_r ?_)))))))))
            refine thn_r ?_
            refine fin hH9 (fun w' hf => (res1 rfl (show RV _ _ _ (.tmp 4) _ from rfl))) (fun w' hf => ?_)
            first | exact congrArg Value.bool (decide_eq_false (fun e => by subst e; omega)).symm | exact congrArg Value.bool (decide_eq_false (fun e => hp (by rw [e]))).symm | exact congrArg Value.bool (decide_eq_true (ext_any (by omega) (fun i hi => hall i (by omega)))).symm
      · skip
        refine cond_f rfl (decide_eq_false hc4) ?_
        refine exit (thn_x (lp_x (blk_here (thn_n (seq (region (ops_y hH3 rfl rfl (yv_assign rfl) (ops_nil (thn_n ?_)))))))))
        refine ret ?_
        refine fin hH3 (fun w' hf => (res1 rfl (show RV _ _ _ (.tmp 4) _ from rfl))) (fun w' hf => ?_)
        first | exact congrArg Value.bool (decide_eq_false (fun e => by subst e; omega)).symm | exact congrArg Value.bool (decide_eq_false (fun e => hp (by rw [e]))).symm | exact congrArg Value.bool (decide_eq_true (ext_any (by omega) (fun i hi => hall i (by omega)))).symm
  · skip
    refine cond_t rfl (not_decide_t hc1) ?_
    refine seq (region (ops_y hH rfl rfl (yv_assign rfl) (ops_nil (thn_n (ret (thn_r ?_))))))
    refine fin hH (fun w' hf => (res1 rfl (show RV _ _ _ (.tmp 4) _ from rfl))) (fun w' hf => ?_)
    first | exact congrArg Value.bool (decide_eq_false (fun e => by subst e; omega)).symm | exact congrArg Value.bool (decide_eq_false (fun e => hp (by rw [e]))).symm | exact congrArg Value.bool (decide_eq_true (ext_any (by omega) (fun i hi => hall i (by omega)))).symm

theorem c26 {v u : Value} {l m : List S.Pr} {w : World} (h0 : Rd encP 2 v l w) (h1 : Rd encP 2 u m w) (hn : l.length ≤ 1000000) (hn2 : m.length ≤ 1000000)  :
    Fn Try.prog 26 [v, u].toArray w (fun u _ => u = .bool (decide (l = m))) := by
  refine fn_of' (args := [v, u]) Try.func26 rfl (ent Try.func26 (by kernel_rfl) rfl) rfl rfl (fun hH => ?_)
  refine seq (region (ops_y hH rfl rfl (yv_assign rfl) (ops_nil (thn_n (seq (seq (region (ops_y hH rfl rfl (yv_move rfl) ?_))))))))
  refine ops_y hH rfl rfl (yv_len T.sl29 rfl (h0.now hH (n := 0) rfl).is) ?_
  refine ops_y hH rfl rfl (yv_move rfl) ?_
  refine ops_y hH rfl rfl (yv_len T.sl29 rfl (h1.now hH (n := 0) rfl).is) ?_
  refine ops_y hH rfl rfl (yv_neq rfl rfl) ?_
  refine ops_nil (thn_n ?_)
  by_cases hc1 : (l.length : Int) = (m.length : Int)
  · skip
    refine cond_f rfl (not_decide_n hc1) ?_
    refine skip (thn_n (seq (seq (region (ops_y hH rfl rfl (yv_assign rfl) (ops_nil (thn_n (block ?_))))))))
    refine loop (S := Nat) (fun k => [(5, (.int .i64 (k : Int))), (0, v), (1, u)]) (fun k w1 => Heap [base w] w1 ∧ k ≤ l.length ∧ ∀ i, i < k → nth l (i : Int) = nth m (i : Int)) (fun k => l.length - k) (0) (Sub.cons rfl (Sub.cons rfl (Sub.cons rfl (Sub.nil _)))) ?_ ?_
    · exact ⟨hH, by omega, S.all_zero⟩
    · rintro k w2 ⟨hH3, hk, hall⟩
      show Holds _ _ _ _ _ [(5, (.int .i64 (k : Int))), (0, v), (1, u)] _ _
      refine seq (seq (region (ops_y hH3 rfl rfl (yv_move rfl) (ops_y hH3 rfl rfl (yv_move rfl) ?_))))
      refine ops_y hH3 rfl rfl (yv_len T.sl29 rfl (h0.now hH3 (n := 0) rfl).is) ?_
      refine ops_y hH3 rfl rfl (yv_lss rfl rfl) ?_
      refine ops_nil (thn_n ?_)
      by_cases hc4 : (k : Int) < (l.length : Int)
      · skip
        refine cond_t rfl (decide_eq_true hc4) ?_
        refine skip (thn_n (seq (block (seq ?_))))
        refine region_draw (fun w' => Heap [base w] w') T.mixed (fun w5 hr6 => ?_)
        have hH7 := hH3.redrawn hr6
        refine any_takes [0, 1, 2, 3, 4, 5, 6, 7, 8] (by kernel_rfl) hH7 _ _ _ (by kernel_rfl) ?_
        refine qs_y rfl rfl (yv_move rfl) (qs_y rfl rfl (yv_move rfl) ?_)
        refine qs_y rfl rfl (yv_index T.sl29 rfl rfl (h0.now hH7 (n := 0) rfl).is (by omega)) ?_
        refine qs_y rfl rfl (yv_loadA (cs := [(.int .i64 ((nth l (k : Int)).1)), (.int .i64 ((nth l (k : Int)).2))]) T.agg70 rfl rfl (fun _ hw => Rd.atA (h0.now hw (n := 0) rfl) (i := (k : Int)) (by omega))) ?_
        refine qs_y rfl rfl (yv_move rfl) (qs_y rfl rfl (yv_move rfl) ?_)
        refine qs_y rfl rfl (yv_index T.sl29 rfl rfl (h1.now hH7 (n := 0) rfl).is (by omega)) ?_
        refine qs_y rfl rfl (yv_loadA (cs := [(.int .i64 ((nth m (k : Int)).1)), (.int .i64 ((nth m (k : Int)).2))]) T.agg70 rfl rfl (fun _ hw => Rd.atA (h1.now hw (n := 0) rfl) (i := (k : Int)) (by omega))) ?_
        refine qs_y rfl rfl (yv_neA (a := [(nth l (k : Int)).1, (nth l (k : Int)).2]) (b := [(nth m (k : Int)).1, (nth m (k : Int)).2]) T.eqi70 rfl rfl rfl rfl) ?_
        refine qs_nil ?_
        refine any_done (by kernel_rfl) ?_
        refine thn_n ?_
        by_cases hc8 : [(nth l (k : Int)).1, (nth l (k : Int)).2] = [(nth m (k : Int)).1, (nth m (k : Int)).2]
        · skip
          have hp : nth l (k : Int) = nth m (k : Int) := pr_of ‹_›
          refine cond_f rfl (not_decide_n hc8) ?_
          refine skip (blk_n (thn_n (region (ops_y hH7 rfl rfl (yv_move rfl) ?_))))
          refine ops_y hH7 rfl rfl (yv_add rfl rfl (by omega)) ?_
          refine ops_y hH7 rfl rfl (yv_assign rfl) (ops_nil ?_)
          refine lp_n (k + 1) (Sub.cons rfl (Sub.cons rfl (Sub.cons rfl (Sub.nil _)))) ?_ ?_
          · exact ⟨hH7, by omega, S.all_snoc hall hp⟩
          · first | (dsimp only; omega) | (show _ < _; omega)
        · skip
          have hp : ¬ nth l (k : Int) = nth m (k : Int) := fun e => ‹¬ _› (by rw [e])
          refine cond_t rfl (not_decide_t hc8) ?_
          refine seq (region (ops_y hH7 rfl rfl (yv_assign rfl) (ops_nil (thn_n (ret (blk_r (thn_r (lp_r (blk_r ?_)))))))))
          refine thn_r ?_
          refine fin hH7 (fun w' hf => (res1 rfl (show RV _ _ _ (.tmp 4) _ from rfl))) (fun w' hf => ?_)
          first | exact congrArg Value.bool (decide_eq_false (fun e => by subst e; omega)).symm | exact congrArg Value.bool (decide_eq_false (fun e => hp (by rw [e]))).symm | exact congrArg Value.bool (decide_eq_true (ext_any (by omega) (fun i hi => hall i (by omega)))).symm
      · skip
        refine cond_f rfl (decide_eq_false hc4) ?_
        refine exit (thn_x (lp_x (blk_here (thn_n (seq (region (ops_y hH3 rfl rfl (yv_assign rfl) (ops_nil (thn_n ?_)))))))))
        refine ret ?_
        refine fin hH3 (fun w' hf => (res1 rfl (show RV _ _ _ (.tmp 4) _ from rfl))) (fun w' hf => ?_)
        first | exact congrArg Value.bool (decide_eq_false (fun e => by subst e; omega)).symm | exact congrArg Value.bool (decide_eq_false (fun e => hp (by rw [e]))).symm | exact congrArg Value.bool (decide_eq_true (ext_any (by omega) (fun i hi => hall i (by omega)))).symm
  · skip
    refine cond_t rfl (not_decide_t hc1) ?_
    refine seq (region (ops_y hH rfl rfl (yv_assign rfl) (ops_nil (thn_n (ret (thn_r ?_))))))
    refine fin hH (fun w' hf => (res1 rfl (show RV _ _ _ (.tmp 4) _ from rfl))) (fun w' hf => ?_)
    first | exact congrArg Value.bool (decide_eq_false (fun e => by subst e; omega)).symm | exact congrArg Value.bool (decide_eq_false (fun e => hp (by rw [e]))).symm | exact congrArg Value.bool (decide_eq_true (ext_any (by omega) (fun i hi => hall i (by omega)))).symm

theorem c103 {b1 b : Nat} {v : Value} {l : List Int} {w : World} (k1 : Bx b1 73 [.pointer (some ⟨b, 0, none⟩)] w) (k2 : Bx b 89 [v] w) (h0 : Rd encI 1 v l w) (hj : S.J l)  :
    Fn Try.prog 103 [(.slice none 0 0), (.func (.func 104) #[] #[(.pointer (some ⟨b1, 0, none⟩))])].toArray w (fun u w => ∃ TT, RowsAt u TT (S.circles l) w) := by
  refine fn_of' (args := [(.slice none 0 0), (.func (.func 104) #[] #[(.pointer (some ⟨b1, 0, none⟩))])]) Try.func103 rfl (ent Try.func103 (by kernel_rfl) rfl) rfl rfl (fun hH => ?_)
  have hl10 := hj.2.1
  refine seq ?_
  have hH1 := ow_nil (enc := encS) 22 1 hH
  refine region ?_
  refine op_box (us := [(.slice none 0 0)]) rfl (SliceIs.cells (Heap.rdw T.el25_encS hH1 (n := 0) rfl).is) rfl hH1 (fun b2 w3 hH4 => ?_)
  refine ops_y hH4 rfl rfl (yv_assign rfl) (ops_nil (thn_n (seq (seq (region (ops_y hH4 rfl rfl (yv_move rfl) (ops_nil (thn_n (block ?_)))))))))
  refine rangeFuncF (n := (S.cyc l)) rfl (it104 (b1 := b1) (b := b) (v := v) hj) rfl hH4 (fun i H => ∃ Rs : List RwI, ∃ v_a : Value, ∃ lo_a : Nat, ∃ hi_a : Nat, H = [bx b2 25 [v_a], ow lo_a hi_a 22 1 encS v_a (Rs.map (·.s)), base w] ++ Rs.map rowI ∧ Rs.map (·.l) = (List.range i).map (S.circAt l)) (fun c H => False) ⟨[], (.slice none 0 0), w.heap.size, w.heap.size, rfl, rfl⟩ (fun i H w hI hw => ?_) (fun l5 D6 i7 x8 lo12 hi13 H w10 rc hx9 hI hH11 => ?_) (fun D6 H w10 hI hH11 => ?_) (fun D6 c H w10 hI hH11 => ?_)
  · skip
    obtain ⟨_, _, _, _, rfl, _⟩ := hI
    exact ⟨(k1.now hw (n := 2) rfl), (k2.now hw (n := 2) rfl), (h0.now hw (n := 2) rfl)⟩
  · skip
    obtain ⟨Rs, v_a, lo_a, hi_a, rfl, hR⟩ := hI
    have hH14 := Heap.toOw hH11 (n := 2) rfl
    refine region (ops_y hH14 rfl rfl (yv_assign rfl) (ops_nil ?_))
    refine ⟨_, hH14, fun w15 hH16 => ?_⟩
    refine block ?_
    have hRl : (Rs.map (·.s)).length = i7 := by have h1 := congrArg List.length hR; simpa using h1
    have hcl := S.circ_length (l := l) (a := (((S.mins l).getD i7 0 : Nat) : Int))
    have hpp := S.per_pos (l := l) (a := (((S.mins l).getD i7 0 : Nat) : Int))
    have hcy := hj.cyc_le
    refine region ?_
    refine ops_y hH16 rfl rfl (yv_load T.one25 rfl (fun _ hw => Heap.cellw hw (n := 3) rfl rfl)) ?_
    refine ops_y hH16 rfl rfl (yv_move rfl) ?_
    obtain ⟨s17, hs18⟩ := Heap.sv hH16 (n := 2) rfl (by omega)
    refine op_lit (us := [(0, x8)]) T.el25_encS [s17] rfl (by decide) rfl (fun a ha => by simp [ha.ev (show ev _ (.tmp 9) = some _ from rfl)]) (fun w => by rw [hs18]; kernel_rfl) hH16 (fun u19 lo21 hi22 w20 hH23 => ?_)
    refine op_append (n := 5) T.el25_encS rfl rfl rfl hH23 rfl (Heap.rdw T.el25_encS hH23 (n := 0) rfl) (by first | omega | (simp only [List.length_append, List.length_cons, List.length_nil]; omega)) (fun u24 lo26 hi27 w25 hH28 => ?_)
    refine op_store (n := 4) (j := 0) (us := [u24]) rfl rfl hH28 rfl T.sz25 (SliceIs.cells (Heap.rdw T.el25_encS hH28 (n := 5) rfl).is) rfl rfl (SliceIs.one (Heap.rdw T.el25_encS hH28 (n := 5) rfl).is) (fun w29 hH30 => ?_)
    refine ops_nil (blk_n ?_)
    have hH31 := hH30.front (n := 6) rfl
    have hH32 := hH31.front (n := 6) rfl
    have hH33 := hH32.front (n := 6) rfl
    have hH34 := hH33.front (n := 5) rfl
    have hH35 := hH34.front (n := 5) rfl
    have hH36 := hH35.front (n := 6) rfl
    have hH37 := (hH36.sub (List.Sublist.cons_cons _ (List.Sublist.cons_cons _ (List.Sublist.cons_cons _ (List.Sublist.cons_cons _ (List.Sublist.cons_cons _ (List.Sublist.cons_cons _ (List.Sublist.cons _ (List.Sublist.refl _)))))))))
    have hH38 := Heap.totail (L := [recItem l5 { rc with state := .busy }, markItem D6, bx b2 25 [u24], ow lo26 hi27 22 1 encS u24 ((Rs.map (·.s)) ++ [s17]), base w]) hH37 hs18
    exact ⟨_, ⟨_, ⟨(Rs ++ [RwI.mk lo12 hi13 s17 (S.circ l (((S.mins l).getD i7 0 : Nat) : Int))]), u24, lo26, hi27, rfl, snd_snoc hR (by rw [List.range_succ, List.map_append]; rfl) rfl⟩, rfl⟩, (Heap.recast (n := 3) hH38 rfl (hd_snoc rfl))⟩
  · skip
    obtain ⟨Rs, v_a, lo_a, hi_a, rfl, hR⟩ := hI
    refine blk_n (thn_n (seq (region ?_)))
    refine ops_y hH11 rfl rfl (yv_load T.one25 rfl (fun _ hw => Heap.cellw hw (n := 1) rfl rfl)) ?_
    refine ops_y hH11 rfl rfl (yv_assign rfl) (ops_nil (thn_n (ret ?_)))
    have hH39 := (hH11.sub (List.Sublist.cons_cons _ (List.Sublist.cons _ (List.Sublist.refl _))))
    refine fin_1 (hH39.front (n := 2) rfl) (fun w' hf => (res1 rfl (show RV _ _ _ (.tmp 4) _ from rfl))) (fun w' hf => ?_)
    refine ⟨Rs.map (·.s), ?_⟩; rw [show S.circles l = Rs.map (·.l) from (hR.trans S.circAt_all).symm]; exact rows_of_tail T.el25_encS T.el22_encI hf
  · skip
    exact hI.elim

end Go.Fip

set_option linter.unusedVariables false
set_option linter.unusedSimpArgs false
set_option linter.unusedSectionVars false
set_option linter.unnecessarySimpa false
namespace Go.Fip
open Go.Proofs Go.RowKit

theorem c73 {b1 b : Nat} {v : Value} {l : List Int} {w : World} (k1 : Bx b1 73 [.pointer (some ⟨b, 0, none⟩)] w) (k2 : Bx b 89 [v] w) (h0 : Rd encI 1 v l w) (hj : S.J l)  :
    Fn Try.prog 73 [(.func (.func 104) #[] #[(.pointer (some ⟨b1, 0, none⟩))])].toArray w (fun u w => ∃ TT, RowsAt u TT (S.circles l) w) := by
  refine fn_of' (args := [(.func (.func 104) #[] #[(.pointer (some ⟨b1, 0, none⟩))])]) Try.func73 rfl (ent Try.func73 (by kernel_rfl) rfl) rfl rfl (fun hH => ?_)
  refine seq (region (ops_y hH rfl rfl (yv_assign rfl) (ops_nil (thn_n (seq (region (ops_y hH rfl rfl (yv_move rfl) ?_)))))))
  refine op_fn rfl rfl rfl hH (c103 (k1.now hH (n := 0) rfl) ((k2.now hH (n := 0) rfl)) (h0.now hH (n := 0) rfl) hj) (fun u3 w1 lo4 hi5 hH2 hv6 => ?_)
  obtain ⟨TT7, hH8⟩ := Heap.fixRows hH2 (n := 0) rfl
  have hTl9 := (show RowsAt u3 TT7 (S.circles l) _ from hH8.get (n := 0) rfl).2.1
  refine ops_y hH8 rfl rfl (yv_assign rfl) (ops_nil (thn_n (ret ?_)))
  refine fin (hH8.front (n := 1) rfl) (fun w' hf => (res1 rfl (show RV _ _ _ (.tmp 2) _ from rfl))) (fun w' hf => ?_)
  exact ⟨_, hf.get (n := 0) rfl⟩

theorem c19 {v : Value} {l : List Int} {w : World} (h0 : Rd encI 1 v l w) (hn : l.length ≤ 1000000)  :
    Fn Try.prog 19 [v].toArray w (fun u w => ∃ q, u = .tuple #[q, .int .i64 (S.circR l).2] ∧ ∃ TT, RowsAt q TT (S.circR l).1 w) := by
  refine fn_of' (args := [v]) Try.func19 rfl (ent Try.func19 (by kernel_rfl) rfl) rfl rfl (fun hH => ?_)
  refine seq (region (ops_y hH rfl rfl (yv_assign rfl) (ops_y hH rfl rfl (yv_assign rfl) (ops_nil (thn_n (seq ?_))))))
  by_cases hc1 : S.check l 0 = 0
  · skip
    have hc0 : S.check l 0 = 0 := ‹_›
    have hj : S.J l := S.check_iff.1 hc0
    have hl1 := hj.1
    have hl10 := hj.2.1
    refine region (ops_y hH rfl rfl (yv_move rfl) ?_)
    refine op_fn rfl rfl rfl hH (c72 (h0.now hH (n := 0) rfl) (by omega) hj) (fun u4 w2 lo5 hi6 hH3 hv7 => ?_)
    obtain ⟨b8, r9, hu, hb10⟩ := hv7
    subst hu
    obtain ⟨g11, hH12⟩ := Heap.toBench hH3 (n := 0) rfl (fun w' h => by obtain ⟨b1, v1, e, h⟩ := h; cases e; exact ⟨v1, h⟩) hb10 (by omega)
    refine ops_y hH12 rfl rfl (yv_move rfl) (ops_y hH12 rfl rfl (yv_extract rfl rfl) (ops_y hH12 rfl rfl (yv_extract rfl rfl) (ops_y hH12 rfl rfl (yv_assign rfl) (ops_y hH12 rfl rfl (yv_assign rfl) (ops_nil (thn_n (seq (seq (region ?_)))))))))
    refine ops_y hH12 rfl rfl (yv_move rfl) ?_
    refine ops_y hH12 rfl rfl (yv_neq rfl rfl) ?_
    refine ops_nil (thn_n ?_)
    refine cond_f rfl rfl ?_
    refine skip (thn_n (seq (region (ops_y hH12 rfl rfl (yv_move rfl) ?_))))
    refine op_fn rfl rfl rfl hH12 (c74) (fun u15 w13 lo16 hi17 hH14 hv18 => ?_)
    obtain ⟨cb19, hu, -⟩ := hv18
    subst hu
    have hH20 := Heap.cap1 hH14 (n := 0) rfl
    refine op_fn rfl rfl rfl hH20 (c73 (hH20.get (n := 0) rfl) (Heap.bxw hH20 (n := 2) rfl) (Heap.rdw T.el22_encI hH20 (n := 1) rfl) hj) (fun u23 w21 lo24 hi25 hH22 hv26 => ?_)
    obtain ⟨TT27, hH28⟩ := Heap.fixRows hH22 (n := 0) rfl
    have hTl29 := (show RowsAt u23 TT27 (S.circles l) _ from hH28.get (n := 0) rfl).2.1
    refine ops_y hH28 rfl rfl (yv_assign rfl) (ops_y hH28 rfl rfl (yv_assign rfl) (ops_nil (thn_n (ret ?_))))
    have hH30 := (hH28.sub (List.Sublist.cons_cons _ (List.Sublist.cons _ (List.Sublist.cons _ (List.Sublist.cons _ (List.Sublist.refl _))))))
    refine fin (hH30.front (n := 1) rfl) (fun w' hf => (res2 rfl (show RV _ _ _ (.tmp 2) _ from rfl) (show RV _ _ _ (.tmp 3) _ from rfl))) (fun w' hf => ?_)
    first | (rw [S.ci1 hcn]; exact ⟨_, rfl, _, RowsAt.nil⟩) | (rw [S.ci2 hc0]; exact ⟨_, rfl, _, hf.get (n := 0) rfl⟩)
  · skip
    have hcn : ¬ S.check l 0 = 0 := ‹_›
    refine region (ops_y hH rfl rfl (yv_move rfl) ?_)
    refine op_fnV rfl rfl rfl hH (c72n (h0.now hH (n := 0) rfl) (by omega) hcn) (fun w31 hH32 => ?_)
    refine ops_y hH32 rfl rfl (yv_move rfl) (ops_y hH32 rfl rfl (yv_extract rfl rfl) (ops_y hH32 rfl rfl (yv_extract rfl rfl) (ops_y hH32 rfl rfl (yv_assign rfl) (ops_y hH32 rfl rfl (yv_assign rfl) (ops_nil (thn_n (seq (seq (region ?_)))))))))
    refine ops_y hH32 rfl rfl (yv_move rfl) ?_
    refine ops_y hH32 rfl rfl (yv_neq rfl rfl) ?_
    refine ops_nil (thn_n ?_)
    have hc33 : ¬ ((S.check l 0) = 0) := hcn
    refine cond_t rfl (not_decide_t hc33) ?_
    refine seq (region (ops_y hH32 rfl rfl (yv_move rfl) (ops_y hH32 rfl rfl (yv_assign rfl) (ops_y hH32 rfl rfl (yv_assign rfl) (ops_nil (thn_n (ret (thn_r ?_))))))))
    refine fin hH32 (fun w' hf => (res2 rfl (show RV _ _ _ (.tmp 2) _ from rfl) (show RV _ _ _ (.tmp 3) _ from rfl))) (fun w' hf => ?_)
    first | (rw [S.ci1 hcn]; exact ⟨_, rfl, _, RowsAt.nil⟩) | (rw [S.ci2 hc0]; exact ⟨_, rfl, _, hf.get (n := 0) rfl⟩)

theorem c20 {v : Value} {l : List Int} {w : World} (h0 : Rd encI 1 v l w) (hn : l.length ≤ 1000000)  :
    Fn Try.prog 20 [v].toArray w (fun u w => ∃ q, u = .tuple #[q, .int .i64 (S.circR l).2] ∧ ∃ TT, RowsAt q TT (S.circR l).1 w) := by
  refine fn_of' (args := [v]) Try.func20 rfl (ent Try.func20 (by kernel_rfl) rfl) rfl rfl (fun hH => ?_)
  refine seq (region (ops_y hH rfl rfl (yv_assign rfl) (ops_y hH rfl rfl (yv_assign rfl) (ops_nil (thn_n (seq (seq ?_)))))))
  by_cases hc1 : S.check l 0 = 0
  · skip
    have hc0 : S.check l 0 = 0 := ‹_›
    have hj : S.J l := S.check_iff.1 hc0
    have hl1 := hj.1
    have hl10 := hj.2.1
    refine region (ops_y hH rfl rfl (yv_move rfl) ?_)
    refine op_fnV rfl rfl rfl hH (c24 (h0.now hH (n := 0) rfl) (by omega)) (fun w2 hH3 => ?_)
    refine ops_y hH3 rfl rfl (yv_neq rfl rfl) ?_
    refine ops_nil (thn_n ?_)
    have hc4 : ¬ (¬ ((S.check l 0) = 0)) := fun h => h hc0
    refine cond_f rfl (not_decide_f hc4) ?_
    refine skip (thn_n (seq (region (ops_y hH3 rfl rfl (yv_move rfl) ?_))))
    refine op_fn rfl rfl rfl hH3 (c75 (h0.now hH3 (n := 0) rfl) hj) (fun u7 w5 lo8 hi9 hH6 hv10 => ?_)
    obtain ⟨TT11, hH12⟩ := Heap.fixRows hH6 (n := 0) rfl
    have hTl13 := (show RowsAt u7 TT11 (S.circles l) _ from hH12.get (n := 0) rfl).2.1
    refine ops_y hH12 rfl rfl (yv_assign rfl) (ops_y hH12 rfl rfl (yv_assign rfl) (ops_nil (thn_n (ret ?_))))
    refine fin (hH12.front (n := 1) rfl) (fun w' hf => (res2 rfl (show RV _ _ _ (.tmp 2) _ from rfl) (show RV _ _ _ (.tmp 3) _ from rfl))) (fun w' hf => ?_)
    first | (rw [S.ci1 hcn]; exact ⟨_, rfl, _, RowsAt.nil⟩) | (rw [S.ci2 hc0]; exact ⟨_, rfl, _, hf.get (n := 0) rfl⟩)
  · skip
    have hcn : ¬ S.check l 0 = 0 := ‹_›
    refine region (ops_y hH rfl rfl (yv_move rfl) ?_)
    refine op_fnV rfl rfl rfl hH (c24 (h0.now hH (n := 0) rfl) (by omega)) (fun w14 hH15 => ?_)
    refine ops_y hH15 rfl rfl (yv_neq rfl rfl) ?_
    refine ops_nil (thn_n ?_)
    have hc16 : ¬ ((S.check l 0) = 0) := hcn
    refine cond_t rfl (not_decide_t hc16) ?_
    refine seq (region (ops_y hH15 rfl rfl (yv_move rfl) ?_))
    refine op_fnV rfl rfl rfl hH15 (c24 (h0.now hH15 (n := 0) rfl) (by omega)) (fun w17 hH18 => ?_)
    refine ops_y hH18 rfl rfl (yv_assign rfl) (ops_y hH18 rfl rfl (yv_assign rfl) (ops_nil (thn_n (ret (thn_r ?_)))))
    refine fin hH18 (fun w' hf => (res2 rfl (show RV _ _ _ (.tmp 2) _ from rfl) (show RV _ _ _ (.tmp 3) _ from rfl))) (fun w' hf => ?_)
    first | (rw [S.ci1 hcn]; exact ⟨_, rfl, _, RowsAt.nil⟩) | (rw [S.ci2 hc0]; exact ⟨_, rfl, _, hf.get (n := 0) rfl⟩)

end Go.Fip
