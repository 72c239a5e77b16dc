/- Walks, by program (wip/tools). -/
import Derived.Test.YtlekkopaeiblfaaWi
set_option linter.unusedVariables false
set_option linter.unusedSimpArgs false
set_option linter.unusedSectionVars false
set_option linter.unnecessarySimpa false
namespace Go.Fip
open Go.Proofs Go.RowKit

theorem c76 {vj : Value} {js : List S.Pr} {x : Int} {b1 : Nat} {w : World} (k1 : Bx b1 22 [vj] w) (h1 : Rd encP 2 vj js w) (hn : js.length ≤ 1000000)  :
    Fn Try.prog 76 [(.int .i64 x), (.pointer (some ⟨b1, 0, none⟩))].toArray w (fun u _ => u = .bool (!decide (0 ≤ x ∧ x ≤ 2 * (js.length : Int) - 1))) := by
  refine fn_of' (args := [(.int .i64 x), (.pointer (some ⟨b1, 0, none⟩))]) Try.func76 rfl (ent Try.func76 (by kernel_rfl) rfl) rfl rfl (fun hH => ?_)
  refine seq ?_
  refine region ?_
  refine ops_y hH rfl rfl (yv_assign rfl) ?_
  refine ops_nil ?_
  refine thn_n ?_
  refine seq ?_
  refine region ?_
  refine ops_y hH rfl rfl (yv_load T.one22 rfl (fun _ hw => bx_cell (k1.now hw (n := 0) rfl) rfl)) ?_
  refine ops_y hH rfl rfl (yv_len T.sl22 rfl (h1.now hH (n := 0) rfl).is) ?_
  refine ops_y hH rfl rfl (yv_mul rfl rfl (by omega)) ?_
  refine ops_y hH rfl rfl (yv_sub rfl rfl (by omega)) ?_
  refine ops_y hH rfl rfl (yv_move rfl) ?_
  refine op_lit (us := [(0, (.int .i64 x))]) T.el116_encI [x] rfl (by decide) rfl (fun a ha => by simp [ha.ev (show ev _ (.tmp 8) = some _ from rfl)]) (fun w => by kernel_rfl) hH (fun u1 lo3 hi4 w2 hH5 => ?_)
  refine op_fnV rfl rfl rfl hH5 (c56_1 (Heap.rdw T.el116_encI hH5 (n := 0) rfl)) (fun w6 hH7 => ?_)
  refine ops_y hH7 rfl rfl (yv_not rfl) ?_
  refine ops_y hH7 rfl rfl (yv_assign rfl) ?_
  refine ops_nil ?_
  refine thn_n ?_
  refine ret ?_
  have hH8 := (hH7.sub (List.Sublist.cons _ (List.Sublist.refl _)))
  refine fin hH8 (fun w' hf => (res1 rfl (show RV _ _ _ (.tmp 3) _ from rfl))) (fun w' hf => ?_)
  rfl

theorem c96 {v vj : Value} {l : List Int} {js : List S.Pr} {b1 : Nat} {w : World} (h0 : Rd encI 1 v l w) (k1 : Bx b1 22 [vj] w) (h1 : Rd encP 2 vj js w) (hn : js.length ≤ 1000000) (hl : l.length ≤ 1000000)  :
    Fn Try.prog 96 [v, (.func (.func 76) #[] #[(.pointer (some ⟨b1, 0, none⟩))])].toArray w (fun u _ => u = .int .i64 (idx (fun x : Int => !decide (0 ≤ x ∧ x ≤ 2 * (js.length : Int) - 1)) l)) := by
  refine fn_of' (args := [v, (.func (.func 76) #[] #[(.pointer (some ⟨b1, 0, none⟩))])]) Try.func96 rfl (ent Try.func96 (by kernel_rfl) rfl) rfl rfl (fun hH => ?_)
  refine seq ?_
  refine region ?_
  refine ops_y hH rfl rfl (yv_assign rfl) ?_
  refine ops_nil ?_
  refine thn_n ?_
  refine seq ?_
  refine seq ?_
  refine region ?_
  refine ops_y hH rfl rfl (yv_move rfl) ?_
  refine ops_y hH rfl rfl (yv_len T.sl39 rfl (h0.now hH (n := 0) rfl).is) ?_
  refine ops_y hH rfl rfl (yv_move rfl) ?_
  refine ops_nil ?_
  refine thn_n ?_
  refine block ?_
  refine loop (S := Nat) (fun k => [(8, (.int .i64 (k : Int))), (0, v), (1, (.func (.func 76) #[] #[(.pointer (some ⟨b1, 0, none⟩))])), (7, (.int .i64 (l.length : Int)))]) (fun k w1 => Heap [base w] w1 ∧ k ≤ l.length ∧ ∀ i, i < k → (fun x : Int => !decide (0 ≤ x ∧ x ≤ 2 * (js.length : Int) - 1)) (nth l (i : Int)) = false) (fun k => l.length - k) (0) (Sub.cons rfl (Sub.cons rfl (Sub.cons rfl (Sub.cons rfl (Sub.nil _))))) ?_ ?_
  · exact ⟨hH, by omega, S.all_zero⟩
  · rintro k w1 ⟨hH2, hk, hall⟩
    show Holds _ _ _ _ _ [(8, (.int .i64 (k : Int))), (0, v), (1, (.func (.func 76) #[] #[(.pointer (some ⟨b1, 0, none⟩))])), (7, (.int .i64 (l.length : Int)))] _ _
    refine seq ?_
    refine region ?_
    refine ops_y hH2 rfl rfl (yv_lss rfl rfl) ?_
    refine ops_nil ?_
    refine thn_n ?_
    refine seq ?_
    by_cases hc3 : (k : Int) < (l.length : Int)
    · skip
      refine cond_t rfl (decide_eq_true hc3) ?_
      refine skip ?_
      refine thn_n ?_
      refine seq ?_
      refine block ?_
      refine seq ?_
      refine region ?_
      refine ops_y hH2 rfl rfl (yv_move rfl) ?_
      refine ops_y hH2 rfl rfl (yv_assign rfl) ?_
      refine ops_nil ?_
      refine thn_n ?_
      refine seq ?_
      refine region ?_
      refine ops_y hH2 rfl rfl (yv_move rfl) ?_
      refine ops_y hH2 rfl rfl (yv_move rfl) ?_
      refine ops_y hH2 rfl rfl (yv_move rfl) ?_
      refine ops_y hH2 rfl rfl (yv_index T.sl39 rfl rfl (h0.now hH2 (n := 0) rfl).is (by omega)) ?_
      refine ops_y hH2 rfl rfl (yv_load T.one3 rfl (fun _ hw => Rd.at (h0.now hw (n := 0) rfl) (i := (k : Int)) (by omega) (j := 0) rfl)) ?_
      refine op_fnV rfl rfl rfl hH2 (c76 (k1.now hH2 (n := 0) rfl) (h1.now hH2 (n := 0) rfl) (by omega)) (fun w4 hH5 => ?_)
      refine ops_nil ?_
      refine thn_n ?_
      by_cases hc6 : 0 ≤ nth l (k : Int) ∧ nth l (k : Int) ≤ 2 * (js.length : Int) - 1
      · skip
        have hp : (fun x : Int => !decide (0 ≤ x ∧ x ≤ 2 * (js.length : Int) - 1)) (nth l (k : Int)) = false := (not_decide_n hc6)
        refine cond_f rfl (not_decide_n hc6) ?_
        refine skip ?_
        refine blk_n ?_
        refine thn_n ?_
        refine region ?_
        refine ops_y hH5 rfl rfl (yv_add rfl rfl (by omega)) ?_
        refine ops_y hH5 rfl rfl (yv_move rfl) ?_
        refine ops_nil ?_
        refine lp_n (k + 1) (Sub.cons rfl (Sub.cons rfl (Sub.cons rfl (Sub.cons rfl (Sub.nil _))))) ?_ ?_
        · exact ⟨hH5, by omega, S.all_snoc hall hp⟩
        · first | (dsimp only; omega) | (show _ < _; omega)
      · skip
        have hp : (fun x : Int => !decide (0 ≤ x ∧ x ≤ 2 * (js.length : Int) - 1)) (nth l (k : Int)) = true := (not_decide_t hc6)
        refine cond_t rfl (not_decide_t hc6) ?_
        refine seq ?_
        refine region ?_
        refine ops_y hH5 rfl rfl (yv_move rfl) ?_
        refine ops_y hH5 rfl rfl (yv_assign rfl) ?_
        refine ops_nil ?_
        refine thn_n ?_
        refine ret ?_
        refine blk_r ?_
        refine thn_r ?_
        refine lp_r ?_
        refine blk_r ?_
        refine thn_r ?_
        refine fin hH5 (fun w' hf => (res1 rfl (show RV _ _ _ (.tmp 4) _ from rfl))) (fun w' hf => ?_)
        first | exact congrArg (Value.int .i64) (idx_hit (k := k) (by omega) hall hp).symm | exact congrArg (Value.int .i64) (idx_miss (fun i hi => hall i (by omega))).symm
    · skip
      refine cond_f rfl (decide_eq_false hc3) ?_
      refine exit ?_
      refine thn_x ?_
      refine lp_x ?_
      refine blk_here ?_
      refine thn_n ?_
      refine seq ?_
      refine region ?_
      refine ops_y hH2 rfl rfl (yv_assign rfl) ?_
      refine ops_nil ?_
      refine thn_n ?_
      refine ret ?_
      refine fin hH2 (fun w' hf => (res1 rfl (show RV _ _ _ (.tmp 4) _ from rfl))) (fun w' hf => ?_)
      first | exact congrArg (Value.int .i64) (idx_hit (k := k) (by omega) hall hp).symm | exact congrArg (Value.int .i64) (idx_miss (fun i hi => hall i (by omega))).symm

theorem c77 {v vj : Value} {l : List Int} {js : List S.Pr} {b1 : Nat} {w : World} (h0 : Rd encI 1 v l w) (k1 : Bx b1 22 [vj] w) (h1 : Rd encP 2 vj js w) (hn : js.length ≤ 1000000) (hl : l.length ≤ 1000000)  :
    Fn Try.prog 77 [v, (.func (.func 76) #[] #[(.pointer (some ⟨b1, 0, none⟩))])].toArray w (fun u _ => u = .bool (has (fun x : Int => !decide (0 ≤ x ∧ x ≤ 2 * (js.length : Int) - 1)) l)) := by
  refine fn_of' (args := [v, (.func (.func 76) #[] #[(.pointer (some ⟨b1, 0, none⟩))])]) Try.func77 rfl (ent Try.func77 (by kernel_rfl) rfl) rfl rfl (fun hH => ?_)
  refine seq ?_
  refine region ?_
  refine ops_y hH rfl rfl (yv_assign rfl) ?_
  refine ops_nil ?_
  refine thn_n ?_
  refine seq ?_
  refine region ?_
  refine ops_y hH rfl rfl (yv_move rfl) ?_
  refine ops_y hH rfl rfl (yv_move rfl) ?_
  refine op_fnV rfl rfl rfl hH (c96 (h0.now hH (n := 0) rfl) (k1.now hH (n := 0) rfl) (h1.now hH (n := 0) rfl) (by omega) (by omega)) (fun w1 hH2 => ?_)
  refine ops_y hH2 rfl rfl (yv_geq rfl rfl) ?_
  refine ops_y hH2 rfl rfl (yv_assign rfl) ?_
  refine ops_nil ?_
  refine thn_n ?_
  refine ret ?_
  refine fin hH2 (fun w' hf => (res1 rfl (show RV _ _ _ (.tmp 4) _ from rfl))) (fun w' hf => ?_)
  rfl

theorem c97 {gf : FuncId} {cap : List Value} {D : World → Prop} {l : List Int} {w : World} (hit : Iter Try.prog gf cap D (l.map (Value.int .i64))) (hst : ∀ w', Below w.heap.size w w' → D w') (hn : l.length ≤ 1000)  :
    Fn Try.prog 97 [(.slice none 0 0), (.func (.func gf) #[] cap.toArray)].toArray w (fun u w => Own 3 1 encI u l w) := by
  refine fn_of' (args := [(.slice none 0 0), (.func (.func gf) #[] cap.toArray)]) Try.func97 rfl (ent Try.func97 (by kernel_rfl) rfl) rfl rfl (fun hH => ?_)
  refine seq ?_
  refine region ?_
  refine op_box (us := [(.slice none 0 0)]) rfl rfl rfl hH (fun b1 w2 hH3 => ?_)
  refine ops_y hH3 rfl rfl (yv_assign rfl) ?_
  refine ops_nil ?_
  refine thn_n ?_
  refine seq ?_
  refine seq ?_
  refine region ?_
  refine ops_y hH3 rfl rfl (yv_move rfl) ?_
  refine ops_nil ?_
  refine thn_n ?_
  refine block ?_
  have hH4 := ow_nil (enc := encI) 3 1 hH3
  refine rangeFunc (xs := (l.map (Value.int .i64))) rfl hit rfl hH4 (fun i H => ∃ v_a : Value, ∃ lo_a : Nat, ∃ hi_a : Nat, H = [ow lo_a hi_a 3 1 encI v_a (l.take i), bx b1 39 [v_a], base w] ∧ True) (fun c H => False) ⟨(.slice none 0 0), w2.heap.size, w2.heap.size, rfl, trivial⟩ (fun i H w hI hw => ?_) (fun l5 D6 i7 x8 H w10 rc hx9 hI hH11 => ?_) (fun D6 H w10 hI hH11 => ?_) (fun D6 c H w10 hI hH11 => ?_)
  · skip
    obtain ⟨_, _, _, rfl, _⟩ := hI
    exact hst _ (hw.get (n := 2) rfl)
  · skip
    obtain ⟨v_a, lo_a, hi_a, rfl, _⟩ := hI
    obtain ⟨hlt, hxe⟩ := map_get hx9
    subst hxe
    refine region ?_
    refine ops_y hH11 rfl rfl (yv_assign rfl) ?_
    refine ops_nil ?_
    refine ⟨_, hH11, fun w12 hH13 => ?_⟩
    refine block ?_
    refine region ?_
    refine ops_y hH13 rfl rfl (yv_load T.one39 rfl (fun _ hw => Heap.cellw hw (n := 3) rfl rfl)) ?_
    refine ops_y hH13 rfl rfl (yv_move rfl) ?_
    refine op_lit (us := [(0, (.int .i64 (nth l (i7 : Int))))]) T.el39_encI [nth l (i7 : Int)] rfl (by decide) rfl (fun a ha => by simp [ha.ev (show ev _ (.tmp 9) = some _ from rfl)]) (fun w => by kernel_rfl) hH13 (fun u14 lo16 hi17 w15 hH18 => ?_)
    refine op_append (n := 3) T.el39_encI rfl rfl rfl hH18 rfl (Heap.rdw T.el39_encI hH18 (n := 0) rfl) (by rw [List.length_take]; simp only [List.length_cons, List.length_nil]; omega) (fun u19 lo21 hi22 w20 hH23 => ?_)
    refine op_store (n := 4) (j := 0) (us := [u19]) rfl rfl hH23 rfl T.sz39 (SliceIs.cells (Heap.rdw T.el39_encI hH23 (n := 3) rfl).is) rfl rfl (SliceIs.one (Heap.rdw T.el39_encI hH23 (n := 3) rfl).is) (fun w24 hH25 => ?_)
    refine ops_nil ?_
    refine blk_n ?_
    have hH26 := (hH25.sub (List.Sublist.cons _ (List.Sublist.refl _)))
    exact ⟨_, ⟨_, ⟨u19, lo21, hi22, rfl, trivial⟩, rfl⟩, (Heap.recast (n := 2) hH26 rfl ((take_snoc hlt)))⟩
  · skip
    obtain ⟨v_a, lo_a, hi_a, rfl, _⟩ := hI
    have hH27 := hH11.perm (List.perm_append_comm (l₁ := [_]))
    refine blk_n ?_
    refine thn_n ?_
    refine seq ?_
    refine region ?_
    refine ops_y hH27 rfl rfl (yv_load T.one39 rfl (fun _ hw => Heap.cellw hw (n := 1) rfl rfl)) ?_
    refine ops_y hH27 rfl rfl (yv_assign rfl) ?_
    refine ops_nil ?_
    refine thn_n ?_
    refine ret ?_
    have hH28 := (hH27.sub (List.Sublist.cons_cons _ (List.Sublist.cons _ (List.Sublist.refl _))))
    refine fin_m (H := [ow lo_a hi_a 3 1 encI v_a (l.take ((l.map (Value.int .i64))).length)]) [D6] (hH28.front (n := 1) rfl) (fun w' hf => (res1 rfl (show RV _ _ _ (.tmp 4) _ from rfl))) (fun w' hf => ?_)
    exact (by have h := Heap.own hf (n := 0) rfl; rw [List.length_map, List.take_length] at h; exact h)
  · skip
    exact hI.elim

theorem c78 {gf : FuncId} {cap : List Value} {D : World → Prop} {l : List Int} {w : World} (hit : Iter Try.prog gf cap D (l.map (Value.int .i64))) (hst : ∀ w', Below w.heap.size w w' → D w') (hn : l.length ≤ 1000)  :
    Fn Try.prog 78 [(.func (.func gf) #[] cap.toArray)].toArray w (fun u w => Own 3 1 encI u l w) := by
  refine fn_of' (args := [(.func (.func gf) #[] cap.toArray)]) Try.func78 rfl (ent Try.func78 (by kernel_rfl) rfl) rfl rfl (fun hH => ?_)
  refine seq ?_
  refine region ?_
  refine ops_y hH rfl rfl (yv_assign rfl) ?_
  refine ops_nil ?_
  refine thn_n ?_
  refine seq ?_
  refine region ?_
  refine ops_y hH rfl rfl (yv_move rfl) ?_
  refine op_fn rfl rfl rfl hH (c97 hit (fun w' hb => hst w' ((show Below w.heap.size w _ from hH.get (n := 0) rfl).trans (hb.mono (show Below w.heap.size w _ from hH.get (n := 0) rfl).size))) hn) (fun u3 w1 lo4 hi5 hH2 hv6 => ?_)
  have hH7 := Heap.toOw hH2 (n := 0) rfl
  refine ops_y hH7 rfl rfl (yv_assign rfl) ?_
  refine ops_nil ?_
  refine thn_n ?_
  refine ret ?_
  refine fin (hH7.front (n := 1) rfl) (fun w' hf => (res1 rfl (show RV _ _ _ (.tmp 2) _ from rfl))) (fun w' hf => ?_)
  exact Heap.own hf (n := 0) rfl

theorem DW.below {b5 b3 b2 d m : Nat} {rv vb vt vf : Value} {x : Int} {L F : List Int} {w w' : World} (h : DW b5 b3 b2 d m rv vb vt vf x L F w) (hb : Below w.heap.size w w') : DW b5 b3 b2 d m rv vb vt vf x L F w' :=
  ⟨⟨h.1.1.below hb, h.1.2.1.below hb, h.1.2.2.below hb⟩, h.2.1.below hb, h.2.2.1.below hb, h.2.2.2.below hb⟩
theorem odd_in {c : List Int} {n : Nat} (h : has (fun x : Int => !decide (0 ≤ x ∧ x ≤ 2 * (n : Int) - 1)) c = true) : ¬ S.InC n c := by
  obtain ⟨i, hi, hp⟩ := has_iff.1 h
  intro h2
  have := h2 i hi
  simp at hp
  omega
theorem not_odd_in {c : List Int} {n : Nat} (h : ¬ has (fun x : Int => !decide (0 ≤ x ∧ x ≤ 2 * (n : Int) - 1)) c = true) : S.InC n c := by
  have h := has_not.1 (Bool.eq_false_iff.2 h)
  intro i hi
  have := h i hi
  simp at this
  omega

theorem c39 {v vc : Value} {js : List S.Pr} {c : List Int} {vb vt vf : Value} {B U F : List Int} {w : World} (h0 : Rd encP 2 v js w) (hB : Rd encI 1 vb B w) (hT : Rd encI 1 vt U w) (hF : Rd encI 1 vf F w) (hC : Rd encI 1 vc c w) (hn : js.length ≤ 1000000) (hBl : B.length ≤ 1000000) (hTl : U.length ≤ 1000000) (hFl : F.length ≤ 1000000) (hcl : c.length ≤ 1000000)  :
    Fn Try.prog 39 [v, (.agg #[vb, vt, vf]), vc].toArray w (fun u _ => u = .int .i64 (S.checkCircle js B U F c)) := by
  refine fn_of' (args := [v, (.agg #[vb, vt, vf]), vc]) Try.func39 rfl (ent Try.func39 (by kernel_rfl) rfl) rfl rfl (fun hH => ?_)
  refine seq ?_
  refine region ?_
  refine op_box (us := [v]) rfl (SliceIs.cells (h0.now hH (n := 0) rfl).is) rfl hH (fun b1 w2 hH3 => ?_)
  refine op_box (us := [vb, vt, vf]) rfl rfl rfl hH3 (fun b4 w5 hH6 => ?_)
  refine ops_y hH6 rfl rfl (yv_assign rfl) ?_
  refine ops_nil ?_
  refine thn_n ?_
  refine seq ?_
  by_cases hc7 : S.checkOrder js B U F = 0
  · skip
    have hco : S.checkOrder js B U F = 0 := ‹_›
    obtain ⟨hj, hO⟩ := S.checkOrder_iff.1 hco
    have hO8 := hO
    obtain ⟨hlB, hlU, hlF, hOk⟩ := hO8
    have hl1 := hj.1
    have hl8 := hj.2.1
    refine region ?_
    refine ops_y hH6 rfl rfl (yv_load T.one22 rfl (fun _ hw => Heap.cellw hw (n := 1) rfl rfl)) ?_
    refine ops_y hH6 rfl rfl (yv_loadA (cs := [vb, vt, vf]) T.agg41 rfl rfl (fun _ hw => Heap.cellsw hw (n := 0) rfl (k := 0) rfl)) ?_
    refine op_fn rfl rfl rfl hH6 (c72 (h0.now hH6 (n := 2) rfl) (hB.now hH6 (n := 2) rfl) (hT.now hH6 (n := 2) rfl) (hF.now hH6 (n := 2) rfl) (by omega) (by omega) (by omega) (by omega) hco) (fun u10 w8 lo11 hi12 hH9 hv13 => ?_)
    obtain ⟨d, m, E, hu, hday, hOK⟩ := hv13
    subst hu
    obtain ⟨es, clock, hents, hH14⟩ := Heap.toDay hH9 (n := 0) rfl (fun w' h => by obtain ⟨d', m', E', e, h, _⟩ := h; cases e; exact ⟨_, _, h⟩) hday
    refine ops_y hH14 rfl rfl (yv_move rfl) ?_
    refine ops_y hH14 rfl rfl (yv_extract rfl rfl) ?_
    refine ops_y hH14 rfl rfl (yv_extract rfl rfl) ?_
    refine ops_y hH14 rfl rfl (yv_assign rfl) ?_
    refine ops_y hH14 rfl rfl (yv_assign rfl) ?_
    refine ops_nil ?_
    refine thn_n ?_
    refine seq ?_
    refine region ?_
    refine ops_y hH14 rfl rfl (yv_func rfl rfl) ?_
    refine ops_y hH14 rfl rfl (yv_assign rfl) ?_
    refine ops_nil ?_
    refine thn_n ?_
    refine seq ?_
    refine block ?_
    refine seq ?_
    refine region ?_
    refine ops_y hH14 rfl rfl (yv_move rfl) ?_
    refine ops_y hH14 rfl rfl (yv_neq rfl rfl) ?_
    refine ops_y hH14 rfl rfl (yv_assign rfl) ?_
    refine ops_nil ?_
    refine thn_n ?_
    have hc15 : ¬ (¬ ((0 : Int) = 0)) := fun h => h rfl
    refine cond_f rfl (not_decide_f hc15) ?_
    refine seq ?_
    refine region ?_
    refine ops_y hH14 rfl rfl (yv_load T.one22 rfl (fun _ hw => Heap.cellw hw (n := 2) rfl rfl)) ?_
    refine ops_y hH14 rfl rfl (yv_len T.sl22 rfl (h0.now hH14 (n := 3) rfl).is) ?_
    refine ops_y hH14 rfl rfl (yv_mul rfl rfl (by omega)) ?_
    refine ops_y hH14 rfl rfl (yv_move rfl) ?_
    refine ops_y hH14 rfl rfl (yv_len T.sl39 rfl (hC.now hH14 (n := 3) rfl).is) ?_
    refine op_lit (us := [(0, (.int .i64 (c.length : Int)))]) T.el116_encI [(c.length : Int)] rfl (by decide) rfl (fun a ha => by simp [ha.ev (show ev _ (.tmp 29) = some _ from rfl)]) (fun w => by kernel_rfl) hH14 (fun u16 lo18 hi19 w17 hH20 => ?_)
    refine op_fnV rfl rfl rfl hH20 (c56_1 (Heap.rdw T.el116_encI hH20 (n := 0) rfl)) (fun w21 hH22 => ?_)
    refine ops_y hH22 rfl rfl (yv_not rfl) ?_
    refine ops_y hH22 rfl rfl (yv_assign rfl) ?_
    refine ops_nil ?_
    refine thn_n ?_
    by_cases hc23 : 2 ≤ (c.length : Int) ∧ (c.length : Int) ≤ 2 * (js.length : Int)
    · skip
      refine cond_f rfl (not_decide_n hc23) ?_
      refine seq ?_
      refine region ?_
      refine ops_y hH22 rfl rfl (yv_move rfl) ?_
      refine ops_y hH22 rfl rfl (yv_move rfl) ?_
      refine op_fnV rfl rfl rfl hH22 (c77 (hC.now hH22 (n := 4) rfl) (Heap.bxw hH22 (n := 3) rfl) (h0.now hH22 (n := 4) rfl) (by omega) (by omega)) (fun w24 hH25 => ?_)
      refine ops_y hH25 rfl rfl (yv_assign rfl) ?_
      refine ops_nil ?_
      refine thn_n ?_
      by_cases hc26 : has (fun x : Int => !decide (0 ≤ x ∧ x ≤ 2 * (js.length : Int) - 1)) c = true
      · skip
        have hbad := odd_in ‹_›
        refine cond_t rfl hc26 ?_
        refine seq ?_
        refine region ?_
        refine ops_y hH25 rfl rfl (yv_assign rfl) ?_
        refine ops_nil ?_
        refine thn_n ?_
        refine ret ?_
        refine blk_r ?_
        refine thn_r ?_
        have hH27 := (hH25.sub (List.Sublist.cons _ (List.Sublist.cons _ (List.Sublist.cons _ (List.Sublist.cons _ (List.Sublist.refl _))))))
        refine fin hH27 (fun w' hf => (res1 rfl (show RV _ _ _ (.tmp 6) _ from rfl))) (fun w' hf => ?_)
        first | exact congrArg (Value.int .i64) (S.cc1 hcn).symm | exact congrArg (Value.int .i64) (S.cc2 hco (by omega)).symm | exact congrArg (Value.int .i64) (S.cc3 hco (by omega) hbad).symm | exact congrArg (Value.int .i64) (S.cc4 hco (by omega) hin hbad).symm | exact congrArg (Value.int .i64) (S.cc5 hco (by omega) hin (fun i hi => hcirc i (by omega))).symm
      · skip
        have hin : S.InC js.length c := not_odd_in ‹_›
        refine cond_f rfl (Bool.eq_false_iff.2 hc26) ?_
        refine skip ?_
        refine blk_n ?_
        refine thn_n ?_
        refine seq ?_
        refine region ?_
        refine ops_y hH25 rfl rfl (yv_move rfl) ?_
        refine ops_y hH25 rfl rfl (yv_move rfl) ?_
        refine ops_y hH25 rfl rfl (yv_len T.sl39 rfl (hC.now hH25 (n := 4) rfl).is) ?_
        refine ops_y hH25 rfl rfl (yv_sub rfl rfl (by omega)) ?_
        refine ops_y hH25 rfl rfl (yv_index T.sl39 rfl rfl (hC.now hH25 (n := 4) rfl).is (by omega)) ?_
        refine ops_y hH25 rfl rfl (yv_load T.one3 rfl (fun _ hw => Rd.at (hC.now hw (n := 4) rfl) (i := (c.length : Int) - 1) (by omega) (j := 0) rfl)) ?_
        refine ops_y hH25 rfl rfl (yv_assign rfl) ?_
        refine ops_nil ?_
        refine thn_n ?_
        refine seq ?_
        refine seq ?_
        refine region ?_
        refine ops_y hH25 rfl rfl (yv_move rfl) ?_
        refine ops_y hH25 rfl rfl (yv_len T.sl39 rfl (hC.now hH25 (n := 4) rfl).is) ?_
        refine ops_y hH25 rfl rfl (yv_move rfl) ?_
        refine ops_nil ?_
        refine thn_n ?_
        refine block ?_
        refine loop (S := Nat) (fun k => [(45, (.int .i64 (k : Int))), (10, (.int .i64 (S.prev c k))), (7, (.pointer (some ⟨d, 0, none⟩))), (43, vc), (44, (.int .i64 (c.length : Int)))]) (fun k w1 => Heap [ow lo18 hi19 2 1 encI u16 [(c.length : Int)], ⟨lo11, hi12, DayR d vb vt vf m es clock⟩, bx b4 41 [vb, vt, vf], bx b1 22 [v], base w] w1 ∧ k ≤ c.length ∧ ∀ i, i < k → S.Waits B U F (nth c (i : Int)) (S.prev c i)) (fun k => c.length - k) (0) (Sub.cons rfl (Sub.cons rfl (Sub.cons rfl (Sub.cons rfl (Sub.cons rfl (Sub.nil _)))))) ?_ ?_
        · exact ⟨hH25, by omega, S.all_zero⟩
        · rintro k w28 ⟨hH29, hk, hcirc⟩
          show Holds _ _ _ _ _ [(45, (.int .i64 (k : Int))), (10, (.int .i64 (S.prev c k))), (7, (.pointer (some ⟨d, 0, none⟩))), (43, vc), (44, (.int .i64 (c.length : Int)))] _ _
          refine seq ?_
          refine region ?_
          refine ops_y hH29 rfl rfl (yv_lss rfl rfl) ?_
          refine ops_nil ?_
          refine thn_n ?_
          refine seq ?_
          by_cases hc30 : (k : Int) < (c.length : Int)
          · skip
            refine cond_t rfl (decide_eq_true hc30) ?_
            refine skip ?_
            refine thn_n ?_
            refine seq ?_
            refine block ?_
            refine seq ?_
            refine region ?_
            refine ops_y hH29 rfl rfl (yv_index T.sl39 rfl rfl (hC.now hH29 (n := 4) rfl).is (by omega)) ?_
            refine ops_y hH29 rfl rfl (yv_load T.one3 rfl (fun _ hw => Rd.at (hC.now hw (n := 4) rfl) (i := (k : Int)) (by omega) (j := 0) rfl)) ?_
            refine ops_y hH29 rfl rfl (yv_assign rfl) ?_
            refine ops_nil ?_
            refine thn_n ?_
            refine seq ?_
            refine seq ?_
            have hpi := S.prev_in hin (by omega) (i := k) (by omega)
            have hci := hin k (by omega)
            obtain ⟨hr1, hr2, hr3, hr4⟩ := hO.row (nth c (k : Int) % 2)
            have hpl := S.pre_length B U F (nth c (k : Int))
            have hpw := S.pre_waits hO hci.1 hci.2 hpi.1 hpi.2
            refine region ?_
            refine ops_y hH29 rfl rfl (yv_move rfl) ?_
            refine ops_y hH29 rfl rfl (yv_move rfl) ?_
            refine op_fn rfl rfl rfl hH29 (c79 (DayR.day (Heap.dr hH29 (n := 1) rfl) hents) (hB.now hH29 (n := 4) rfl) (hT.now hH29 (n := 4) rfl) (by omega) (by omega)) (fun u36 w34 lo37 hi38 hH35 hv39 => ?_)
            obtain ⟨c31, c32, c33, hu, -⟩ := hv39
            subst hu
            have hH40 := Heap.cap hH35 (n := 0) rfl
            refine op_fn rfl rfl rfl hH40 (c78 (l := (S.pre B U F (nth c (k : Int)))) (it98 (d := d) (m := m) (vb := vb) (vt := vt) (vf := vf) (rv := (if (nth c (k : Int)) % 2 = 1 then vt else vb)) (L := S.row B U (nth c (k : Int) % 2)) (F := F) (x := nth c (k : Int)) (by omega) (by omega) (by omega) (by omega) (fun i h0 h1 => by have := (hO.row (nth c (k : Int) % 2)).2.1 i h0 (by omega); omega)) (fun w' hb => DW.below ⟨hH40.get (n := 0) rfl, (DayR.day (Heap.dr hH40 (n := 2) rfl) hents).1, rd_row (hB.now hH40 (n := 5) rfl) (hT.now hH40 (n := 5) rfl), (hF.now hH40 (n := 5) rfl)⟩ hb) (by have := S.pre_length B U F (nth c (k : Int)); omega)) (fun u43 w41 lo44 hi45 hH42 hv46 => ?_)
            have hH47 := Heap.toOw hH42 (n := 0) rfl
            refine ops_y hH47 rfl rfl (yv_move rfl) ?_
            refine op_fnV rfl rfl rfl hH47 (c73 (Heap.rdw T.el39_encI hH47 (n := 0) rfl) (by omega)) (fun w48 hH49 => ?_)
            refine ops_y hH49 rfl rfl (yv_not rfl) ?_
            refine ops_nil ?_
            refine thn_n ?_
            by_cases hc50 : 0 ≤ S.place (S.pre B U F (nth c (k : Int))) (S.prev c k)
            · skip
              have hWt := hpw.1 ‹_›
              refine cond_f rfl (not_decide_n hc50) ?_
              refine skip ?_
              refine thn_n ?_
              refine region ?_
              refine ops_y hH49 rfl rfl (yv_move rfl) ?_
              refine ops_y hH49 rfl rfl (yv_assign rfl) ?_
              refine ops_nil ?_
              refine blk_n ?_
              refine thn_n ?_
              refine region ?_
              refine ops_y hH49 rfl rfl (yv_add rfl rfl (by omega)) ?_
              refine ops_y hH49 rfl rfl (yv_move rfl) ?_
              refine ops_nil ?_
              have hH51 := (hH49.sub (List.Sublist.cons _ (List.Sublist.cons _ (List.Sublist.refl _))))
              refine lp_n (k + 1) (Sub.cons rfl (Sub.cons (by rw [S.prev_succ]; rfl) (Sub.cons rfl (Sub.cons rfl (Sub.cons rfl (Sub.nil _)))))) ?_ ?_
              · exact ⟨hH51, by omega, S.all_snoc hcirc hWt⟩
              · first | (dsimp only; omega) | (show _ < _; omega)
            · skip
              have hbad : ¬ S.Circ B U F c := fun h => absurd (h k (by omega)) (fun h2 => absurd (hpw.2 h2) ‹_›)
              refine cond_t rfl (not_decide_t hc50) ?_
              refine seq ?_
              refine region ?_
              refine ops_y hH49 rfl rfl (yv_assign rfl) ?_
              refine ops_nil ?_
              refine thn_n ?_
              refine ret ?_
              refine thn_r ?_
              refine blk_r ?_
              refine thn_r ?_
              refine lp_r ?_
              refine blk_r ?_
              refine thn_r ?_
              have hH52 := (hH49.sub (List.Sublist.cons _ (List.Sublist.cons _ (List.Sublist.cons _ (List.Sublist.cons _ (List.Sublist.cons _ (List.Sublist.cons _ (List.Sublist.refl _))))))))
              refine fin hH52 (fun w' hf => (res1 rfl (show RV _ _ _ (.tmp 6) _ from rfl))) (fun w' hf => ?_)
              first | exact congrArg (Value.int .i64) (S.cc1 hcn).symm | exact congrArg (Value.int .i64) (S.cc2 hco (by omega)).symm | exact congrArg (Value.int .i64) (S.cc3 hco (by omega) hbad).symm | exact congrArg (Value.int .i64) (S.cc4 hco (by omega) hin hbad).symm | exact congrArg (Value.int .i64) (S.cc5 hco (by omega) hin (fun i hi => hcirc i (by omega))).symm
          · skip
            refine cond_f rfl (decide_eq_false hc30) ?_
            refine exit ?_
            refine thn_x ?_
            refine lp_x ?_
            refine blk_here ?_
            refine thn_n ?_
            refine seq ?_
            refine region ?_
            refine ops_y hH29 rfl rfl (yv_assign rfl) ?_
            refine ops_nil ?_
            refine thn_n ?_
            refine ret ?_
            have hH53 := (hH29.sub (List.Sublist.cons _ (List.Sublist.cons _ (List.Sublist.cons _ (List.Sublist.cons _ (List.Sublist.refl _))))))
            refine fin hH53 (fun w' hf => (res1 rfl (show RV _ _ _ (.tmp 6) _ from rfl))) (fun w' hf => ?_)
            first | exact congrArg (Value.int .i64) (S.cc1 hcn).symm | exact congrArg (Value.int .i64) (S.cc2 hco (by omega)).symm | exact congrArg (Value.int .i64) (S.cc3 hco (by omega) hbad).symm | exact congrArg (Value.int .i64) (S.cc4 hco (by omega) hin hbad).symm | exact congrArg (Value.int .i64) (S.cc5 hco (by omega) hin (fun i hi => hcirc i (by omega))).symm
    · skip
      refine cond_t rfl (not_decide_t hc23) ?_
      refine seq ?_
      refine region ?_
      refine ops_y hH22 rfl rfl (yv_assign rfl) ?_
      refine ops_nil ?_
      refine thn_n ?_
      refine ret ?_
      refine blk_r ?_
      refine thn_r ?_
      have hH54 := (hH22.sub (List.Sublist.cons _ (List.Sublist.cons _ (List.Sublist.cons _ (List.Sublist.cons _ (List.Sublist.refl _))))))
      refine fin hH54 (fun w' hf => (res1 rfl (show RV _ _ _ (.tmp 6) _ from rfl))) (fun w' hf => ?_)
      first | exact congrArg (Value.int .i64) (S.cc1 hcn).symm | exact congrArg (Value.int .i64) (S.cc2 hco (by omega)).symm | exact congrArg (Value.int .i64) (S.cc3 hco (by omega) hbad).symm | exact congrArg (Value.int .i64) (S.cc4 hco (by omega) hin hbad).symm | exact congrArg (Value.int .i64) (S.cc5 hco (by omega) hin (fun i hi => hcirc i (by omega))).symm
  · skip
    have hcn : ¬ S.checkOrder js B U F = 0 := ‹_›
    refine region ?_
    refine ops_y hH6 rfl rfl (yv_load T.one22 rfl (fun _ hw => Heap.cellw hw (n := 1) rfl rfl)) ?_
    refine ops_y hH6 rfl rfl (yv_loadA (cs := [vb, vt, vf]) T.agg41 rfl rfl (fun _ hw => Heap.cellsw hw (n := 0) rfl (k := 0) rfl)) ?_
    refine op_fnV rfl rfl rfl hH6 (c72n (h0.now hH6 (n := 2) rfl) (hB.now hH6 (n := 2) rfl) (hT.now hH6 (n := 2) rfl) (hF.now hH6 (n := 2) rfl) (by omega) (by omega) (by omega) (by omega) hcn) (fun w55 hH56 => ?_)
    refine ops_y hH56 rfl rfl (yv_move rfl) ?_
    refine ops_y hH56 rfl rfl (yv_extract rfl rfl) ?_
    refine ops_y hH56 rfl rfl (yv_extract rfl rfl) ?_
    refine ops_y hH56 rfl rfl (yv_assign rfl) ?_
    refine ops_y hH56 rfl rfl (yv_assign rfl) ?_
    refine ops_nil ?_
    refine thn_n ?_
    refine seq ?_
    refine region ?_
    refine ops_y hH56 rfl rfl (yv_func rfl rfl) ?_
    refine ops_y hH56 rfl rfl (yv_assign rfl) ?_
    refine ops_nil ?_
    refine thn_n ?_
    refine seq ?_
    refine block ?_
    refine seq ?_
    refine region ?_
    refine ops_y hH56 rfl rfl (yv_move rfl) ?_
    refine ops_y hH56 rfl rfl (yv_neq rfl rfl) ?_
    refine ops_y hH56 rfl rfl (yv_assign rfl) ?_
    refine ops_nil ?_
    refine thn_n ?_
    have hc57 : ¬ ((S.checkOrder js B U F) = 0) := hcn
    refine cond_t rfl (not_decide_t hc57) ?_
    refine seq ?_
    refine region ?_
    refine ops_y hH56 rfl rfl (yv_move rfl) ?_
    refine ops_y hH56 rfl rfl (yv_assign rfl) ?_
    refine ops_nil ?_
    refine thn_n ?_
    refine ret ?_
    refine blk_r ?_
    refine thn_r ?_
    have hH58 := (hH56.sub (List.Sublist.cons _ (List.Sublist.cons _ (List.Sublist.refl _))))
    refine fin hH58 (fun w' hf => (res1 rfl (show RV _ _ _ (.tmp 6) _ from rfl))) (fun w' hf => ?_)
    first | exact congrArg (Value.int .i64) (S.cc1 hcn).symm | exact congrArg (Value.int .i64) (S.cc2 hco (by omega)).symm | exact congrArg (Value.int .i64) (S.cc3 hco (by omega) hbad).symm | exact congrArg (Value.int .i64) (S.cc4 hco (by omega) hin hbad).symm | exact congrArg (Value.int .i64) (S.cc5 hco (by omega) hin (fun i hi => hcirc i (by omega))).symm

end Go.Fip
