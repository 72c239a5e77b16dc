/- Joined texts: V4, V5. -/
import Derived.Test.YtfomadbnfcadnaaGreatDoorMI
import Derived.Test.YtfomadbnfcadnaaGreatDoorMF
set_option linter.unusedVariables false
set_option linter.unusedSimpArgs false
set_option linter.unusedSectionVars false
set_option linter.unnecessarySimpa false
namespace Go.Fip
open Go.Proofs Go.RowKit
theorem Heap.weak {H : List Item} {w : World} {n lo hi : Nat} {φ ψ : World → Prop} (hH : Heap H w) (hn : H[n]? = some ⟨lo, hi, φ⟩) (h : ∀ w, φ w → ψ w) : Heap (H.set n ⟨lo, hi, ψ⟩) w := by
 have hok := hH.okAt hn
 exact hH.swapItem hn ⟨hok.1, hok.2.1, fun w' ha => h w' (hok.2.2 w' ha)⟩
theorem agg_slice {p p' : Value} {k : IntKind} {a b : Int} (h : Value.tuple #[.agg #[p], .int k a] = .tuple #[.agg #[p'], .int k b]) : p = p' := by cases h; rfl
theorem agg_slice1 {p p' : Value} (h : Value.agg #[p] = .agg #[p']) : p = p' := by cases h; rfl
def B.three : List En := [⟨4, 10, 1, 2, 300⟩, ⟨7, 10, 2, 3, 120⟩, ⟨5, 12, 3, 1, 50⟩]
theorem B.list_eq {l m : List En} (h : l.length = m.length) (h2 : ∀ i : Nat, i < l.length → nth l (i : Int) = nth m (i : Int)) : l = m := by
 refine List.ext_getElem h fun i h3 h4 => ?_
 have := h2 i h3
 rwa [nth_nat h3, nth_nat h4] at this
theorem c54 {n d f t a : Int} {w : World}  :
  Fn Tryz.prog 54 [(.int .i64 n), (.int .i64 d), (.int .i64 f), (.int .i64 t), (.int .i64 a)].toArray w (fun u _ => u = .agg #[.int .i64 n, .int .i64 d, .int .i64 f, .int .i64 t, .int .i64 a]) := by
 refine fn_of' (args := [(.int .i64 n), (.int .i64 d), (.int .i64 f), (.int .i64 t), (.int .i64 a)]) Tryz.func54 rfl (ent Tryz.func54 (by kernel_rfl) rfl) rfl rfl (fun hH => ?_)
 refine seq (region ?_)
 refine op_alloc (z := (.agg #[(.int .i64 0), (.int .i64 0), (.int .i64 0), (.int .i64 0), (.int .i64 0)])) (us := [(.int .i64 0), (.int .i64 0), (.int .i64 0), (.int .i64 0), (.int .i64 0)]) (fun _ => by kernel_rfl) rfl rfl hH (fun b1 w2 hH3 => ?_)
 refine ops_nil (thn_n (seq (region (oM hH3 rfl rfl (oM hH3 rfl rfl (oM hH3 rfl rfl (oM hH3 rfl rfl (oM hH3 rfl rfl ?_))))))))
 refine ops_y hH3 rfl rfl (yv_build (v := (.agg #[(.int .i64 n), (.int .i64 d), (.int .i64 f), (.int .i64 t), (.int .i64 a)])) (us := [(0, (.int .i64 n)), (1, (.int .i64 d)), (2, (.int .i64 f)), (3, (.int .i64 t)), (4, (.int .i64 a))]) (fun a ha => by simp [ha.ev (show ev _ (.tmp 11) = some _ from rfl), ha.ev (show ev _ (.tmp 12) = some _ from rfl), ha.ev (show ev _ (.tmp 13) = some _ from rfl), ha.ev (show ev _ (.tmp 14) = some _ from rfl), ha.ev (show ev _ (.tmp 15) = some _ from rfl)]) (fun w => by kernel_rfl)) ?_
 refine op_store (n := 0) (j := 0) (us := [(.int .i64 n), (.int .i64 d), (.int .i64 f), (.int .i64 t), (.int .i64 a)]) rfl rfl hH3 rfl T.sz38 rfl rfl rfl (by rfl) (fun w4 hH5 => ?_)
 refine ops_nil (thn_n (ret ?_))
 refine fin (hH5.front (n := 1) rfl) (fun w' hf => (res1 rfl (rvA (cs := [(.int .i64 n), (.int .i64 d), (.int .i64 f), (.int .i64 t), (.int .i64 a)]) rfl T.agg38 rfl (bx_cells (Heap.bxw hf (n := 1) rfl) (k := 0) rfl)))) (fun w' hf => ?_)
 rfl
theorem c53 {v : Value} {w : World}  :
  Fn Tryz.prog 53 [v].toArray w (fun u _ => u = v) := by
 refine fn_of' (args := [v]) Tryz.func53 rfl (ent Tryz.func53 (by kernel_rfl) rfl) rfl rfl (fun hH => ?_)
 refine seq (region (oA hH rfl rfl (ops_nil (thn_n (seq (region (oM hH rfl rfl (oA hH rfl rfl (ops_nil ?_)))))))))
 refine thn_n (ret ?_)
 refine fin hH (fun w' hf => (res1 rfl (show RV _ _ _ (.tmp 2) _ from rfl))) (fun w' hf => ?_)
 rfl
theorem c52 {w : World}  :
  Fn Tryz.prog 52 [].toArray w (fun u w => ∃ p, u = .agg #[p] ∧ Rd encE 5 p B.three w) := by
 refine fn_of' (args := []) Tryz.func52 rfl (ent Tryz.func52 (by kernel_rfl) rfl) rfl rfl (fun hH => ?_)
 refine seq (region ?_)
 refine op_alloc (z := (.agg #[(.slice none 0 0)])) (us := [(.slice none 0 0)]) (fun _ => by kernel_rfl) rfl rfl hH (fun b1 w2 hH3 => ?_)
 refine ops_nil (thn_n (seq (region ?_)))
 refine op_fnV rfl rfl rfl hH3 (c54) (fun w4 hH5 => ?_)
 refine op_fnV rfl rfl rfl hH5 (c54) (fun w6 hH7 => ?_)
 refine op_fnV rfl rfl rfl hH7 (c54) (fun w8 hH9 => ?_)
 refine op_lit (us := [(0, (.agg #[(.int .i64 4), (.int .i64 10), (.int .i64 1), (.int .i64 2), (.int .i64 300)])), (1, (.agg #[(.int .i64 7), (.int .i64 10), (.int .i64 2), (.int .i64 3), (.int .i64 120)])), (2, (.agg #[(.int .i64 5), (.int .i64 12), (.int .i64 3), (.int .i64 1), (.int .i64 50)]))]) T.el22_encE [(⟨4, 10, 1, 2, 300⟩ : En), (⟨7, 10, 2, 3, 120⟩ : En), (⟨5, 12, 3, 1, 50⟩ : En)] rfl (by decide) rfl (fun a ha => by simp [ha.ev (show ev _ (.tmp 1) = some _ from rfl), ha.ev (show ev _ (.tmp 2) = some _ from rfl), ha.ev (show ev _ (.tmp 3) = some _ from rfl)]) (fun w => by kernel_rfl) hH9 (fun u10 lo12 hi13 w11 hH14 => ?_)
 obtain ⟨_, _, hb15, _⟩ := (Heap.rdw T.el22_encE hH14 (n := 0) rfl).is
 refine ops_y hH14 rfl rfl (yv_build (v := (.agg #[u10])) (us := [(0, u10)]) (fun a ha => by simp [ha.ev (show ev _ (.tmp 4) = some _ from rfl)]) (fun w => by rw [hb15]; kernel_rfl)) ?_
 refine op_store (n := 1) (j := 0) (us := [u10]) rfl rfl hH14 rfl T.sz24 rfl rfl rfl (all_one (SliceIs.one1 (Heap.rdw T.el22_encE hH14 (n := 0) rfl).is) rfl) (fun w16 hH17 => ?_)
 refine ops_nil (thn_n (ret ?_))
 refine fin (hH17.front (n := 2) rfl) (fun w' hf => (res1 rfl (rvA (cs := [u10]) rfl T.agg24 rfl (bx_cells (Heap.bxw hf (n := 2) rfl) (k := 0) rfl)))) (fun w' hf => ?_)
 exact ⟨_, rfl, Heap.rdw T.el22_encE hf (n := 0) rfl⟩
theorem c42 {v u : Value} {l m : List En} {w : World} (h0 : Rd encE 5 v l w) (h1 : Rd encE 5 u m w) (hn : l.length ≤ 1000000) (hn2 : m.length ≤ 1000000)  :
  Fn Tryz.prog 42 [(.agg #[v]), (.agg #[u])].toArray w (fun u _ => u = .bool (decide (l = m))) := by
 refine fn_of' (args := [(.agg #[v]), (.agg #[u])]) Tryz.func42 rfl (ent Tryz.func42 (by kernel_rfl) rfl) rfl rfl (fun hH => ?_)
 refine seq (region ?_)
 refine op_box (us := [v]) rfl rfl rfl hH (fun b1 w2 hH3 => ?_)
 refine op_box (us := [u]) rfl rfl rfl hH3 (fun b4 w5 hH6 => ?_)
 refine oA hH6 rfl rfl (ops_nil (thn_n (seq (seq (region ?_)))))
 refine ops_y hH6 rfl rfl (yv_field T.f24_0 rfl) ?_
 refine ops_y hH6 rfl rfl (yv_load T.one22 rfl (fun _ hw => Heap.cellw hw (n := 1) rfl rfl)) ?_
 refine ops_y hH6 rfl rfl (yv_len T.sl22 rfl (h0.now hH6 (n := 2) rfl).is) ?_
 refine ops_y hH6 rfl rfl (yv_field T.f24_0 rfl) ?_
 refine ops_y hH6 rfl rfl (yv_load T.one22 rfl (fun _ hw => Heap.cellw hw (n := 0) rfl rfl)) ?_
 refine ops_y hH6 rfl rfl (yv_len T.sl22 rfl (h1.now hH6 (n := 2) rfl).is) ?_
 refine ops_y hH6 rfl rfl (yv_neq rfl rfl) ?_
 refine ops_nil (thn_n ?_)
 by_cases hc7 : (l.length : Int) = (m.length : Int)
 ·skip
  have hle : l.length = m.length := by omega
  refine cond_f rfl (not_decide_n hc7) ?_
  refine skip (thn_n (seq (seq (region (oA hH6 rfl rfl (ops_nil (thn_n (block ?_))))))))
  refine loop (S := Nat) (fun k => [(5, (.int .i64 (k : Int))), (2, (.pointer (some ⟨b1, 0, none⟩))), (3, (.pointer (some ⟨b4, 0, none⟩)))]) (fun k w1 => Heap [bx b4 24 [u], bx b1 24 [v], base w] w1 ∧ k ≤ l.length ∧ ∀ i : Nat, i < k → nth l (i : Int) = nth m (i : Int)) (fun k => l.length - k) (0) (uC rfl (uC rfl (uC rfl (Sub.nil _)))) ?_ ?_
  ·exact ⟨hH6, by omega, fun i h => by omega⟩
  ·rintro k w8 ⟨hH9, hk, hall⟩
   show Holds _ _ _ _ _ [(5, (.int .i64 (k : Int))), (2, (.pointer (some ⟨b1, 0, none⟩))), (3, (.pointer (some ⟨b4, 0, none⟩)))] _ _
   refine seq (seq (region (oM hH9 rfl rfl ?_)))
   refine ops_y hH9 rfl rfl (yv_field T.f24_0 rfl) ?_
   refine ops_y hH9 rfl rfl (yv_load T.one22 rfl (fun _ hw => Heap.cellw hw (n := 1) rfl rfl)) ?_
   refine ops_y hH9 rfl rfl (yv_len T.sl22 rfl (h0.now hH9 (n := 2) rfl).is) ?_
   refine ops_y hH9 rfl rfl (yv_lss rfl rfl) ?_
   refine ops_nil (thn_n ?_)
   by_cases hc10 : (k : Int) < (l.length : Int)
   ·skip
    refine cond_t rfl (dT hc10) ?_
    refine skip (thn_n (seq (block (seq ?_))))
    refine region_draw (fun w' => Heap [bx b4 24 [u], bx b1 24 [v], base w] w') T.mixed (fun w11 hr12 => ?_)
    have hH13 := hH9.redrawn hr12
    refine any_takes [0, 1, 2, 3, 4, 5, 6, 7, 8, 9, 10] (by kernel_rfl) hH13 _ _ _ (by kernel_rfl) ?_
    refine qs_y rfl rfl (yv_field T.f24_0 rfl) ?_
    refine qs_y rfl rfl (yv_load T.one22 rfl (fun _ hw => Heap.cellw hw (n := 1) rfl rfl)) ?_
    refine qM rfl rfl rfl ?_
    refine qs_y rfl rfl (yv_index T.sl22 rfl rfl (h0.now hH13 (n := 2) rfl).is (by omega)) ?_
    refine qs_y rfl rfl (yv_loadA (cs := [(.int .i64 ((nth l (k : Int)).n)), (.int .i64 ((nth l (k : Int)).d)), (.int .i64 ((nth l (k : Int)).f)), (.int .i64 ((nth l (k : Int)).t)), (.int .i64 ((nth l (k : Int)).a))]) T.agg38 rfl rfl (fun _ hw => Rd.atA (h0.now hw (n := 2) rfl) (i := (k : Int)) (by omega))) ?_
    refine qs_y rfl rfl (yv_field T.f24_0 rfl) ?_
    refine qs_y rfl rfl (yv_load T.one22 rfl (fun _ hw => Heap.cellw hw (n := 0) rfl rfl)) ?_
    refine qM rfl rfl rfl ?_
    refine qs_y rfl rfl (yv_index T.sl22 rfl rfl (h1.now hH13 (n := 2) rfl).is (by omega)) ?_
    refine qs_y rfl rfl (yv_loadA (cs := [(.int .i64 ((nth m (k : Int)).n)), (.int .i64 ((nth m (k : Int)).d)), (.int .i64 ((nth m (k : Int)).f)), (.int .i64 ((nth m (k : Int)).t)), (.int .i64 ((nth m (k : Int)).a))]) T.agg38 rfl rfl (fun _ hw => Rd.atA (h1.now hw (n := 2) rfl) (i := (k : Int)) (by omega))) ?_
    refine qs_y rfl rfl (yv_neA (a := [(nth l (k : Int)).n, (nth l (k : Int)).d, (nth l (k : Int)).f, (nth l (k : Int)).t, (nth l (k : Int)).a]) (b := [(nth m (k : Int)).n, (nth m (k : Int)).d, (nth m (k : Int)).f, (nth m (k : Int)).t, (nth m (k : Int)).a]) T.eqi38 rfl rfl rfl rfl) ?_
    refine qs_nil ?_
    refine any_done (by kernel_rfl) ?_
    refine thn_n ?_
    by_cases hc14 : [(nth l (k : Int)).n, (nth l (k : Int)).d, (nth l (k : Int)).f, (nth l (k : Int)).t, (nth l (k : Int)).a] = [(nth m (k : Int)).n, (nth m (k : Int)).d, (nth m (k : Int)).f, (nth m (k : Int)).t, (nth m (k : Int)).a]
    ·skip
     have hek : nth l (k : Int) = nth m (k : Int) := B.lst_inj.1 ‹_›
     refine cond_f rfl (not_decide_n hc14) ?_
     refine skip (blk_n (thn_n (region (oM hH13 rfl rfl ?_))))
     refine ops_y hH13 rfl rfl (yv_add rfl rfl (by omega)) ?_
     refine oA hH13 rfl rfl (ops_nil ?_)
     refine lp_n (k + 1) (uC rfl (uC rfl (uC rfl (Sub.nil _)))) ?_ ?_
     ·exact ⟨hH13, by omega, B.all_snoc hall hek⟩
     ·first | (dsimp only; omega) | (show _ < _; omega)
    ·skip
     have hne : ¬ l = m := fun e => by subst e; exact absurd rfl ‹_›
     refine cond_t rfl (not_decide_t hc14) ?_
     refine seq (region (oA hH13 rfl rfl (ops_nil (thn_n (ret (blk_r (thn_r (lp_r (blk_r ?_)))))))))
     refine thn_r ?_
     have hH15 := (hH13.sub (sC (sC sR)))
     refine fin hH15 (fun w' hf => (res1 rfl (show RV _ _ _ (.tmp 4) _ from rfl))) (fun w' hf => ?_)
     first | exact congrArg Value.bool (dF hne).symm | exact congrArg Value.bool (dT heq).symm
   ·skip
    have heq : l = m := B.list_eq hle (fun i hi => hall i (by omega))
    refine cond_f rfl (dF hc10) ?_
    refine exit (thn_x (lp_x (blk_here (thn_n (seq (region (oA hH9 rfl rfl (ops_nil (thn_n ?_)))))))))
    refine ret ?_
    have hH16 := (hH9.sub (sC (sC sR)))
    refine fin hH16 (fun w' hf => (res1 rfl (show RV _ _ _ (.tmp 4) _ from rfl))) (fun w' hf => ?_)
    first | exact congrArg Value.bool (dF hne).symm | exact congrArg Value.bool (dT heq).symm
 ·skip
  have hne : ¬ l = m := fun e => by subst e; omega
  refine cond_t rfl (not_decide_t hc7) ?_
  refine seq (region (oA hH6 rfl rfl (ops_nil (thn_n (ret (thn_r ?_))))))
  have hH17 := (hH6.sub (sC (sC sR)))
  refine fin hH17 (fun w' hf => (res1 rfl (show RV _ _ _ (.tmp 4) _ from rfl))) (fun w' hf => ?_)
  first | exact congrArg Value.bool (dF hne).symm | exact congrArg Value.bool (dT heq).symm
theorem c43 {v : Value} {l : List En} {w : World} (h0 : Rd encE 5 v l w)  :
  Fn Tryz.prog 43 [(.agg #[v])].toArray w (fun u _ => u = .bool (decide (B.ck l = 0))) := by
 refine fn_of' (args := [(.agg #[v])]) Tryz.func43 rfl (ent Tryz.func43 (by kernel_rfl) rfl) rfl rfl (fun hH => ?_)
 refine seq (region ?_)
 refine op_box (us := [v]) rfl rfl rfl hH (fun b1 w2 hH3 => ?_)
 refine oA hH3 rfl rfl (ops_nil (thn_n (seq (region ?_))))
 refine ops_y hH3 rfl rfl (yv_loadA (cs := [v]) T.agg24 rfl rfl (fun _ hw => Heap.cellsw hw (n := 0) rfl (k := 0) rfl)) ?_
 refine op_fnV rfl rfl rfl hH3 (c17 (h0.now hH3 (n := 1) rfl)) (fun w4 hH5 => ?_)
 refine ops_y hH5 rfl rfl (yv_not rfl) ?_
 refine oM hH5 rfl rfl ?_
 by_cases hc6 : 30 < (l.length : Int)
 ·skip
  refine guard_no rfl rfl (not_decide_n hc6) rfl ?_
  refine guard_no rfl rfl (not_decide_n hc6) rfl ?_
  refine guard_no rfl rfl (not_decide_n hc6) rfl ?_
  refine ops_y hH5 rfl rfl (yv_pick_f rfl (not_decide_n hc6) rfl) ?_
  refine oA hH5 rfl rfl (ops_nil (thn_n (ret ?_)))
  have hH7 := (hH5.sub (sC sR))
  refine fin hH7 (fun w' hf => (res1 rfl (show RV _ _ _ (.tmp 2) _ from rfl))) (fun w' hf => ?_)
  first | rfl | exact congrArg Value.bool (dF (fun h => absurd (B.ck_iff.1 h).1 (by omega))).symm
 ·skip
  refine guard_yes rfl rfl (not_decide_t hc6) ?_
  refine ops_y hH5 rfl rfl (yv_loadA (cs := [v]) T.agg24 rfl rfl (fun _ hw => Heap.cellsw hw (n := 0) rfl (k := 0) rfl)) ?_
  refine guard_yes rfl rfl (not_decide_t hc6) ?_
  refine op_fnV rfl rfl rfl hH5 (c22 (h0.now hH5 (n := 1) rfl) (by omega)) (fun w8 hH9 => ?_)
  refine guard_yes rfl rfl (not_decide_t hc6) ?_
  refine ops_y hH9 rfl rfl (yv_eql rfl rfl) ?_
  refine ops_y hH9 rfl rfl (yv_pick_t rfl (not_decide_t hc6) rfl) ?_
  refine oA hH9 rfl rfl (ops_nil (thn_n (ret ?_)))
  have hH10 := (hH9.sub (sC sR))
  refine fin hH10 (fun w' hf => (res1 rfl (show RV _ _ _ (.tmp 2) _ from rfl))) (fun w' hf => ?_)
  first | rfl | exact congrArg Value.bool (dF (fun h => absurd (B.ck_iff.1 h).1 (by omega))).symm
theorem c49 {v : Value} {l : List En} {w : World} (h0 : Rd encE 5 v l w) {k : Int} (hk : 0 ≤ k ∧ k ≤ (l.length : Int))  :
  Fn Tryz.prog 49 [(.agg #[v]), (.int .i64 k)].toArray w (fun u _ => u = .agg #[(cutv v 5 0 k.toNat)]) := by
 refine fn_of' (args := [(.agg #[v]), (.int .i64 k)]) Tryz.func49 rfl (ent Tryz.func49 (by kernel_rfl) rfl) rfl rfl (fun hH => ?_)
 refine seq (region ?_)
 refine op_box (us := [v]) rfl rfl rfl hH (fun b1 w2 hH3 => ?_)
 refine op_alloc (z := (.agg #[(.slice none 0 0)])) (us := [(.slice none 0 0)]) (fun _ => by kernel_rfl) rfl rfl hH3 (fun b4 w5 hH6 => ?_)
 refine ops_nil (thn_n (seq (region ?_)))
 refine ops_y hH6 rfl rfl (yv_field T.f24_0 rfl) ?_
 refine ops_y hH6 rfl rfl (yv_load T.one22 rfl (fun _ hw => Heap.cellw hw (n := 1) rfl rfl)) ?_
 refine oM hH6 rfl rfl ?_
 refine ops_y hH6 rfl rfl (yv_cut_hi T.sl22 rfl rfl (h0.now hH6 (n := 2) rfl).is (by omega)) ?_
 obtain ⟨_, _, hb7, _⟩ := (Rd.upto (h0.now hH6 (n := 2) rfl) (hi := k.toNat) (by omega)).is
 refine ops_y hH6 rfl rfl (yv_build (v := (.agg #[(cutv v 5 0 k.toNat)])) (us := [(0, (cutv v 5 0 k.toNat))]) (fun a ha => by simp [ha.ev (show ev _ (.tmp 8) = some _ from rfl)]) (fun w => by rw [hb7]; kernel_rfl)) ?_
 refine op_store (n := 0) (j := 0) (us := [(cutv v 5 0 k.toNat)]) rfl rfl hH6 rfl T.sz24 rfl rfl rfl (all_one (SliceIs.one1 (Rd.upto (h0.now hH6 (n := 2) rfl) (hi := k.toNat) (by omega)).is) rfl) (fun w8 hH9 => ?_)
 refine ops_nil (thn_n (ret ?_))
 have hH10 := (hH9.sub (List.Sublist.cons_cons _ (sC sR)))
 refine fin (hH10.front (n := 1) rfl) (fun w' hf => (res1 rfl (rvA (cs := [(cutv v 5 0 k.toNat)]) rfl T.agg24 rfl (bx_cells (Heap.bxw hf (n := 1) rfl) (k := 0) rfl)))) (fun w' hf => ?_)
 rfl
end Go.Fip
namespace Go.Fip
open Go.Proofs Go.RowKit
namespace K
theorem n1 : (((6719674455804711816 : UInt64).toNat : Nat) : Int) = 6719674455804711816 := by decide +kernel
theorem n2 : (((12638187200555641996 : UInt64).toNat : Nat) : Int) = 12638187200555641996 := by decide +kernel
theorem b1 : B.balR B.three 1 12 = ((-250), 0) := by decide +kernel
theorem b2 : B.balR B.three 10 12 = (0, 2) := by decide +kernel
theorem s1 : B.sumR [97] = (12638187200555641996, 0) := by decide +kernel
theorem r1 : B.rootR B.three = (6719674455804711816, 0) := by decide +kernel
theorem p1 : B.pathR B.three 0 = ([15774714427196812772, 4767282599215168177], 0) := by decide +kernel
theorem p2 : B.pathR B.three 3 = ([], 3) := by decide +kernel
theorem g1 : B.gwR B.three 1 = ([15774714427196812772, 4767282599215168177], 0) := by decide +kernel
theorem g2 : B.gwR B.three 0 = ([], 2) := by decide +kernel
theorem q1 : B.cp (⟨7, 10, 2, 3, 120⟩ : En) 1 3 ([1731110933544241005, 4767282599215168177] : List UInt64) 6719674455804711816 = 0 := by decide +kernel
theorem q2 : B.cp (⟨7, 10, 2, 3, 120⟩ : En) 0 3 ([1731110933544241005, 4767282599215168177] : List UInt64) 6719674455804711816 = 25 := by decide +kernel
theorem q3 : B.cg 2 3 ([4767282599215168177] : List UInt64) 15194925396971619381 6719674455804711816 = 0 := by decide +kernel
theorem q4 : B.cg 1 3 ([4767282599215168177] : List UInt64) 15194925396971619381 6719674455804711816 = 25 := by decide +kernel
theorem j1 : B.joinR (B.three.drop 1) (B.three.take 2) = (B.three, 0) := by decide +kernel
theorem f1 : B.fileR B.three = ([52, 32, 49, 48, 32, 49, 32, 50, 32, 51, 48, 48, 10, 55, 32, 49, 48, 32, 50, 32, 51, 32, 49, 50, 48, 10, 53, 32, 49, 50, 32, 51, 32, 49, 32, 53, 48, 10, 115, 117, 109, 32, 53, 100, 52, 49, 49, 52, 53, 48, 98, 48, 56, 49, 57, 51, 56, 56, 10], 0) := by decide +kernel
theorem l1 : B.loadR [52, 32, 49, 48, 32, 49, 32, 50, 32, 51, 48, 48, 10, 55, 32, 49, 48, 32, 50, 32, 51, 32, 49, 50, 48, 10, 53, 32, 49, 50, 32, 51, 32, 49, 32, 53, 48, 10, 115, 117, 109, 32, 53, 100, 52, 49, 49, 52, 53, 48, 98, 48, 56, 49, 57, 51, 56, 56, 10] = (B.three, 0) := by decide +kernel
theorem sl : ([115, 117, 109, 32] ++ B.hex 6719674455804711816) ++ [10] = ([115, 117, 109, 32, 53, 100, 52, 49, 49, 52, 53, 48, 98, 48, 56, 49, 57, 51, 56, 56, 10] : List UInt8) := by decide +kernel
theorem l2 : B.loadR [115, 117, 109, 32, 53, 100, 52, 49, 49, 52, 53, 48, 98, 48, 56, 49, 57, 51, 56, 56, 10] = ([], 14) := by decide +kernel
end K
theorem c18 {w : World} (hG : Gl w)  :
  Fn Tryz.prog 18 [].toArray w (fun u _ => u = .bool true) := by
 refine fn_of' (args := []) Tryz.func18 rfl (ent Tryz.func18 (by kernel_rfl) rfl) rfl rfl (fun hH => ?_)
 have ht3 : B.three.length = 3 := rfl
 refine seq (region (oA hH rfl rfl (ops_nil (thn_n (seq (region ?_))))))
 refine op_fn rfl rfl rfl hH (c52) (fun u3 w1 lo4 hi5 hH2 hv6 => ?_)
 obtain ⟨bp7, hu, -⟩ := hv6
 subst hu
 have hH8 := Heap.weak (ψ := Rd encE 5 bp7 B.three) hH2 (n := 0) rfl (fun w' h => (by obtain ⟨p', e, h⟩ := h; rw [agg_slice1 e]; exact h))
 refine op_alloc (z := (.agg #[(.slice none 0 0)])) (us := [(.slice none 0 0)]) (fun _ => by kernel_rfl) rfl rfl hH8 (fun b9 w10 hH11 => ?_)
 refine op_store (n := 0) (j := 0) (us := [bp7]) rfl rfl hH11 rfl T.sz24 rfl rfl rfl (all_one (SliceIs.one1 ((show Rd encE 5 bp7 B.three _ from hH11.get (n := 1) rfl)).is) rfl) (fun w12 hH13 => ?_)
 refine ops_nil (thn_n (seq (region ?_)))
 refine ops_y hH13 rfl rfl (yv_loadA (cs := [bp7]) T.agg24 rfl rfl (fun _ hw => Heap.cellsw hw (n := 0) rfl (k := 0) rfl)) ?_
 refine op_fnV rfl rfl rfl hH13 ((by have h := c19 ((show Rd encE 5 bp7 B.three _ from hH13.get (n := 1) rfl)) (by decide) (hG.now hH13 (n := 2) rfl) (a := 1) (d := 12) (w := w12); simp only [K.b1] at h; exact h)) (fun w14 hH15 => ?_)
 refine oM hH15 rfl rfl (ops_y hH15 rfl rfl (yv_extract rfl rfl) (ops_y hH15 rfl rfl (yv_extract rfl rfl) (oA hH15 rfl rfl (oA hH15 rfl rfl (ops_nil (thn_n (seq (region ?_))))))))
 refine ops_y hH15 rfl rfl (yv_loadA (cs := [bp7]) T.agg24 rfl rfl (fun _ hw => Heap.cellsw hw (n := 0) rfl (k := 0) rfl)) ?_
 refine op_fnV rfl rfl rfl hH15 ((by have h := c19 ((show Rd encE 5 bp7 B.three _ from hH15.get (n := 1) rfl)) (by decide) (hG.now hH15 (n := 2) rfl) (a := 10) (d := 12) (w := w14); simp only [K.b2] at h; exact h)) (fun w16 hH17 => ?_)
 refine oM hH17 rfl rfl (ops_y hH17 rfl rfl (yv_extract rfl rfl) (ops_y hH17 rfl rfl (yv_extract rfl rfl) (oA hH17 rfl rfl (oA hH17 rfl rfl (ops_nil (thn_n (seq (region ?_))))))))
 refine op_fnV rfl rfl rfl hH17 ((by have h := c23 (l := [97]) (w := w16); simp only [K.s1, K.n2] at h; exact h)) (fun w18 hH19 => ?_)
 refine oM hH19 rfl rfl (ops_y hH19 rfl rfl (yv_extract rfl rfl) (ops_y hH19 rfl rfl (yv_extract rfl rfl) (oA hH19 rfl rfl (oA hH19 rfl rfl (ops_nil (thn_n (seq (region ?_))))))))
 refine ops_y hH19 rfl rfl (yv_loadA (cs := [bp7]) T.agg24 rfl rfl (fun _ hw => Heap.cellsw hw (n := 0) rfl (k := 0) rfl)) ?_
 refine op_fnV rfl rfl rfl hH19 ((by have h := c25 ((show Rd encE 5 bp7 B.three _ from hH19.get (n := 1) rfl)) (by decide) (hG.now hH19 (n := 2) rfl)  (w := w18); simp only [K.r1, K.n1] at h; exact h)) (fun w20 hH21 => ?_)
 refine oM hH21 rfl rfl (ops_y hH21 rfl rfl (yv_extract rfl rfl) (ops_y hH21 rfl rfl (yv_extract rfl rfl) (oA hH21 rfl rfl (oA hH21 rfl rfl (ops_nil (thn_n (seq (region ?_))))))))
 refine ops_y hH21 rfl rfl (yv_loadA (cs := [bp7]) T.agg24 rfl rfl (fun _ hw => Heap.cellsw hw (n := 0) rfl (k := 0) rfl)) ?_
 refine op_fn rfl rfl rfl hH21 ((by have h := c27 ((show Rd encE 5 bp7 B.three _ from hH21.get (n := 1) rfl)) (by decide) (hG.now hH21 (n := 2) rfl) (i := 0) (w := w20); simp only [K.p1] at h; exact h)) (fun u24 w22 lo25 hi26 hH23 hv27 => ?_)
 obtain ⟨p29, hu, -⟩ := hv27
 subst hu
 have hH28 := Heap.tup2 hH23 (n := 0) rfl
 refine oM hH28 rfl rfl (ops_y hH28 rfl rfl (yv_extract rfl rfl) (ops_y hH28 rfl rfl (yv_extract rfl rfl) (oA hH28 rfl rfl (oA hH28 rfl rfl (ops_nil (thn_n (seq (region ?_))))))))
 refine ops_y hH28 rfl rfl (yv_loadA (cs := [bp7]) T.agg24 rfl rfl (fun _ hw => Heap.cellsw hw (n := 1) rfl (k := 0) rfl)) ?_
 refine op_fn rfl rfl rfl hH28 ((by have h := c27 ((show Rd encE 5 bp7 B.three _ from hH28.get (n := 2) rfl)) (by decide) (hG.now hH28 (n := 3) rfl) (i := 3) (w := w22); simp only [K.p2] at h; exact h)) (fun u32 w30 lo33 hi34 hH31 hv35 => ?_)
 obtain ⟨p37, hu, -⟩ := hv35
 subst hu
 have hH36 := Heap.tup2 hH31 (n := 0) rfl
 refine oM hH36 rfl rfl (ops_y hH36 rfl rfl (yv_extract rfl rfl) (ops_y hH36 rfl rfl (yv_extract rfl rfl) (oA hH36 rfl rfl (oA hH36 rfl rfl (ops_nil (thn_n (seq (region ?_))))))))
 refine ops_y hH36 rfl rfl (yv_loadA (cs := [bp7]) T.agg24 rfl rfl (fun _ hw => Heap.cellsw hw (n := 2) rfl (k := 0) rfl)) ?_
 refine op_fn rfl rfl rfl hH36 ((by have h := c32 ((show Rd encE 5 bp7 B.three _ from hH36.get (n := 3) rfl)) (by decide) (hG.now hH36 (n := 4) rfl) (m := 1) (w := w30); simp only [K.g1] at h; exact h)) (fun u40 w38 lo41 hi42 hH39 hv43 => ?_)
 obtain ⟨p45, hu, -⟩ := hv43
 subst hu
 have hH44 := Heap.tup2 hH39 (n := 0) rfl
 refine oM hH44 rfl rfl (ops_y hH44 rfl rfl (yv_extract rfl rfl) (ops_y hH44 rfl rfl (yv_extract rfl rfl) (oA hH44 rfl rfl (oA hH44 rfl rfl (ops_nil (thn_n (seq (region ?_))))))))
 refine ops_y hH44 rfl rfl (yv_loadA (cs := [bp7]) T.agg24 rfl rfl (fun _ hw => Heap.cellsw hw (n := 3) rfl (k := 0) rfl)) ?_
 refine op_fn rfl rfl rfl hH44 ((by have h := c32 ((show Rd encE 5 bp7 B.three _ from hH44.get (n := 4) rfl)) (by decide) (hG.now hH44 (n := 5) rfl) (m := 0) (w := w38); simp only [K.g2] at h; exact h)) (fun u48 w46 lo49 hi50 hH47 hv51 => ?_)
 obtain ⟨p53, hu, -⟩ := hv51
 subst hu
 have hH52 := Heap.tup2 hH47 (n := 0) rfl
 refine oM hH52 rfl rfl (ops_y hH52 rfl rfl (yv_extract rfl rfl) (ops_y hH52 rfl rfl (yv_extract rfl rfl) (oA hH52 rfl rfl (oA hH52 rfl rfl (ops_nil (thn_n (seq (region ?_))))))))
 refine op_fnV rfl rfl rfl hH52 (c54) (fun w54 hH55 => ?_)
 refine op_lit (us := [(0, (.int .u64 1731110933544241005)), (1, (.int .u64 4767282599215168177))]) T.el39_encW [(1731110933544241005 : UInt64), (4767282599215168177 : UInt64)] rfl (by decide) rfl (fun a ha => by simp [ha.ev (show ev _ (.const (.int .u64 1731110933544241005)) = some _ from rfl), ha.ev (show ev _ (.const (.int .u64 4767282599215168177)) = some _ from rfl)]) (fun w => by kernel_rfl) hH55 (fun u56 lo58 hi59 w57 hH60 => ?_)
 refine op_fnV rfl rfl rfl hH60 (c53) (fun w61 hH62 => ?_)
 refine op_fnV rfl rfl rfl hH62 ((by have h := c30 (e := (⟨7, 10, 2, 3, 120⟩ : En)) (i := 1) (n := 3) (r := 6719674455804711816) (hG.now hH62 (n := 7) rfl) (Heap.rdw T.el39_encW hH62 (n := 0) rfl) (by decide) (w := w61); simp only [K.q1, K.n1] at h; exact h)) (fun w63 hH64 => ?_)
 refine oA hH64 rfl rfl (ops_nil (thn_n (seq (region ?_))))
 refine op_fnV rfl rfl rfl hH64 (c54) (fun w65 hH66 => ?_)
 refine op_lit (us := [(0, (.int .u64 1731110933544241005)), (1, (.int .u64 4767282599215168177))]) T.el39_encW [(1731110933544241005 : UInt64), (4767282599215168177 : UInt64)] rfl (by decide) rfl (fun a ha => by simp [ha.ev (show ev _ (.const (.int .u64 1731110933544241005)) = some _ from rfl), ha.ev (show ev _ (.const (.int .u64 4767282599215168177)) = some _ from rfl)]) (fun w => by kernel_rfl) hH66 (fun u67 lo69 hi70 w68 hH71 => ?_)
 refine op_fnV rfl rfl rfl hH71 (c53) (fun w72 hH73 => ?_)
 refine op_fnV rfl rfl rfl hH73 ((by have h := c30 (e := (⟨7, 10, 2, 3, 120⟩ : En)) (i := 0) (n := 3) (r := 6719674455804711816) (hG.now hH73 (n := 8) rfl) (Heap.rdw T.el39_encW hH73 (n := 0) rfl) (by decide) (w := w72); simp only [K.q2, K.n1] at h; exact h)) (fun w74 hH75 => ?_)
 refine oA hH75 rfl rfl (ops_nil (thn_n (seq (region ?_))))
 refine op_lit (us := [(0, (.int .u64 4767282599215168177))]) T.el39_encW [(4767282599215168177 : UInt64)] rfl (by decide) rfl (fun a ha => by simp [ha.ev (show ev _ (.const (.int .u64 4767282599215168177)) = some _ from rfl)]) (fun w => by kernel_rfl) hH75 (fun u76 lo78 hi79 w77 hH80 => ?_)
 refine op_fnV rfl rfl rfl hH80 (c53) (fun w81 hH82 => ?_)
 refine op_fnV rfl rfl rfl hH82 ((by have h := c34 (m := 2) (n := 3) (o := 15194925396971619381) (r := 6719674455804711816) (hG.now hH82 (n := 9) rfl) (Heap.rdw T.el39_encW hH82 (n := 0) rfl) (by decide) (w := w81); simp only [K.q3] at h; exact h)) (fun w83 hH84 => ?_)
 refine op_lit (us := [(0, (.int .u64 4767282599215168177))]) T.el39_encW [(4767282599215168177 : UInt64)] rfl (by decide) rfl (fun a ha => by simp [ha.ev (show ev _ (.const (.int .u64 4767282599215168177)) = some _ from rfl)]) (fun w => by kernel_rfl) hH84 (fun u85 lo87 hi88 w86 hH89 => ?_)
 refine op_fnV rfl rfl rfl hH89 (c53) (fun w90 hH91 => ?_)
 refine op_fnV rfl rfl rfl hH91 ((by have h := c34 (m := 1) (n := 3) (o := 15194925396971619381) (r := 6719674455804711816) (hG.now hH91 (n := 10) rfl) (Heap.rdw T.el39_encW hH91 (n := 0) rfl) (by decide) (w := w90); simp only [K.q4] at h; exact h)) (fun w92 hH93 => ?_)
 refine oA hH93 rfl rfl (oA hH93 rfl rfl (ops_nil (thn_n ?_)))
 refine cut (S := World × Nat × Value × Value × Value × Nat × Value) (fun (w0, b1, v1, v10, v14, b22, v22) => [(1, (.pointer (some ⟨b1, 0, none⟩))), (10, v10), (14, v14), (22, (.pointer (some ⟨b22, 0, none⟩))), (23, (.int .i64 0)), (0, (.bool false)), (2, (.int .i64 (-250))), (3, (.int .i64 0)), (5, (.int .i64 2)), (6, (.int .u64 12638187200555641996)), (7, (.int .i64 0)), (8, (.int .u64 6719674455804711816)), (9, (.int .i64 0)), (11, (.int .i64 0)), (13, (.int .i64 3)), (15, (.int .i64 0)), (17, (.int .i64 2)), (18, (.int .i64 0)), (19, (.int .i64 25)), (20, (.int .i64 0)), (21, (.int .i64 25))]) (fun (w0, b1, v1, v10, v14, b22, v22) w1 => Heap [base w0] w1 ∧ Below w.heap.size w w0 ∧ Bx b1 24 [v1] w0 ∧ Rd encE 5 v1 B.three w0 ∧ Rd encW 1 v10 ([15774714427196812772, 4767282599215168177] : List UInt64) w0 ∧ Rd encW 1 v14 ([15774714427196812772, 4767282599215168177] : List UInt64) w0 ∧ Bx b22 24 [v22] w0 ∧ Rd encE 5 v22 B.three w0) ?_ ?_
 ·skip
  refine region_draw (fun w' => True) T.mixed (fun w94 hr95 => ?_)
  have hH96 := hH93.redrawn hr95
  refine any_takes [0, 4] (by kernel_rfl) trivial _ _ _ (by kernel_rfl) ?_
  refine qs_y rfl rfl (yv_field T.f24_0 rfl) ?_
  refine qs_y rfl rfl (yv_field T.f24_0 rfl) ?_
  refine qs_nil ?_
  refine any_all [1, 5, 12] (by kernel_rfl) rfl ?_
  refine ⟨⟨_, rfl, ?_⟩, ⟨_, rfl, ?_⟩, ⟨_, rfl, ?_⟩, trivial⟩
  ·skip
   refine ops_y hH96 rfl rfl (yv_load T.one22 rfl (fun _ hw => Heap.cellw hw (n := 8) rfl rfl)) ?_
   refine ops_nil ?_
   refine ⟨trivial, ?_⟩
   obtain ⟨_, _, hb97, _⟩ := (Rd.from ((show Rd encE 5 bp7 B.three _ from hH96.get (n := 9) rfl)) (lo := 1) (by omega)).is
   refine any_takes [2, 3] (by kernel_rfl) trivial _ _ _ (by kernel_rfl) ?_
   refine qs_y rfl rfl (yv_cut_lo T.sl22 rfl rfl ((show Rd encE 5 bp7 B.three _ from hH96.get (n := 9) rfl)).is (by omega)) ?_
   refine qs_y rfl rfl (yv_build (v := (.agg #[(cutv bp7 5 1 B.three.length)])) (us := [(0, (cutv bp7 5 1 B.three.length))]) (fun a ha => by simp [ha.ev (show ev _ (.tmp 87) = some _ from rfl)]) (fun w => by rw [hb97]; kernel_rfl)) ?_
   refine qs_nil ?_
   refine any_all [5, 12] (by kernel_rfl) rfl ?_
   refine ⟨⟨_, rfl, ?_⟩, ⟨_, rfl, ?_⟩, trivial⟩
   ·skip
    refine ops_y hH96 rfl rfl (yv_load T.one22 rfl (fun _ hw => Heap.cellw hw (n := 8) rfl rfl)) ?_
    refine ops_nil ?_
    refine ⟨trivial, ?_⟩
    obtain ⟨_, _, hb98, _⟩ := (Rd.upto ((show Rd encE 5 bp7 B.three _ from hH96.get (n := 9) rfl)) (hi := 2) (by omega)).is
    refine any_takes [6, 7] (by kernel_rfl) trivial _ _ _ (by kernel_rfl) ?_
    refine qs_y rfl rfl (yv_cut_hi T.sl22 rfl rfl ((show Rd encE 5 bp7 B.three _ from hH96.get (n := 9) rfl)).is (by omega)) ?_
    refine qs_y rfl rfl (yv_build (v := (.agg #[(cutv bp7 5 0 2)])) (us := [(0, (cutv bp7 5 0 2))]) (fun a ha => by simp [ha.ev (show ev _ (.tmp 91) = some _ from rfl)]) (fun w => by rw [hb98]; kernel_rfl)) ?_
    refine qs_nil ?_
    refine any_all [8, 12] (by kernel_rfl) rfl ?_
    refine ⟨⟨_, rfl, ?_⟩, ⟨_, rfl, ?_⟩, trivial⟩
    ·skip
     refine op_fn rfl rfl rfl hH96 ((by have h := c36 (Rd.from ((show Rd encE 5 bp7 B.three _ from hH96.get (n := 9) rfl)) (lo := 1) (by omega)) (Rd.upto ((show Rd encE 5 bp7 B.three _ from hH96.get (n := 9) rfl)) (hi := 2) (by omega)) (by decide) (by decide) (w := w94); simp only [K.j1] at h; exact h)) (fun u101 w99 lo102 hi103 hH100 hv104 => ?_)
     obtain ⟨bp105, hu, -⟩ := hv104
     subst hu
     have hH106 := Heap.weak (ψ := Rd encE 5 bp105 B.three) hH100 (n := 0) rfl (fun w' h => (by obtain ⟨p', e, h⟩ := h; rw [agg_slice e]; exact h))
     refine ops_nil ?_
     refine ⟨trivial, ?_⟩
     refine any_takes [9, 10, 11] (by kernel_rfl) trivial _ _ _ (by kernel_rfl) ?_
     refine qM rfl rfl rfl ?_
     refine qs_y rfl rfl (yv_extract rfl rfl) ?_
     refine qs_y rfl rfl (yv_extract rfl rfl) ?_
     refine qs_nil ?_
     refine any_all [12] (by kernel_rfl) rfl ?_
     refine ⟨⟨_, rfl, ?_⟩, trivial⟩
     ·skip
      refine op_alloc (z := (.agg #[(.slice none 0 0)])) (us := [(.slice none 0 0)]) (fun _ => by kernel_rfl) rfl rfl hH106 (fun b107 w108 hH109 => ?_)
      refine ops_nil ?_
      refine ⟨trivial, ?_⟩
      refine any_all [13] (by kernel_rfl) rfl ?_
      refine ⟨⟨_, rfl, ?_⟩, trivial⟩
      ·skip
       refine op_store (n := 0) (j := 0) (us := [bp105]) rfl rfl hH109 rfl T.sz24 rfl rfl rfl (all_one (SliceIs.one1 ((show Rd encE 5 bp105 B.three _ from hH109.get (n := 1) rfl)).is) rfl) (fun w110 hH111 => ?_)
       refine ops_nil ?_
       refine ⟨trivial, ?_⟩
       refine any_takes [14] (by kernel_rfl) trivial _ _ _ (by kernel_rfl) ?_
       refine qs_y rfl rfl (yv_assign rfl) (qs_nil ?_)
       refine any_done (by kernel_rfl) ?_
       refine mid_n (w110, b9, bp7, p29, p45, b107, bp105) (uC rfl (uC rfl (uC rfl (uC rfl (uC rfl (uC rfl (uC rfl (uC rfl (uC rfl (uC rfl (uC rfl (uC rfl (uC rfl (uC rfl (uC rfl (uC rfl (uC rfl (uC rfl (uC rfl (uC rfl (uC rfl (Sub.nil _)))))))))))))))))))))) ?_
       exact ⟨Heap.start w110, hH111.get (n := 12) rfl, Heap.bxw hH111 (n := 10) rfl, ((show Rd encE 5 bp7 B.three _ from hH111.get (n := 11) rfl)), (Heap.rdw T.el39_encW hH111 (n := 9) rfl), (Heap.rdw T.el39_encW hH111 (n := 7) rfl), Heap.bxw hH111 (n := 0) rfl, ((show Rd encE 5 bp105 B.three _ from hH111.get (n := 1) rfl))⟩
    ·skip
     refine op_alloc (z := (.agg #[(.slice none 0 0)])) (us := [(.slice none 0 0)]) (fun _ => by kernel_rfl) rfl rfl hH96 (fun b112 w113 hH114 => ?_)
     refine ops_nil ?_
     refine ⟨trivial, ?_⟩
     refine any_all [8] (by kernel_rfl) rfl ?_
     refine ⟨⟨_, rfl, ?_⟩, trivial⟩
     ·skip
      refine op_fn rfl rfl rfl hH114 ((by have h := c36 (Rd.from ((show Rd encE 5 bp7 B.three _ from hH114.get (n := 10) rfl)) (lo := 1) (by omega)) (Rd.upto ((show Rd encE 5 bp7 B.three _ from hH114.get (n := 10) rfl)) (hi := 2) (by omega)) (by decide) (by decide) (w := w113); simp only [K.j1] at h; exact h)) (fun u117 w115 lo118 hi119 hH116 hv120 => ?_)
      obtain ⟨bp121, hu, -⟩ := hv120
      subst hu
      have hH122 := Heap.weak (ψ := Rd encE 5 bp121 B.three) hH116 (n := 0) rfl (fun w' h => (by obtain ⟨p', e, h⟩ := h; rw [agg_slice e]; exact h))
      refine ops_nil ?_
      refine ⟨trivial, ?_⟩
      refine any_takes [9, 10, 11] (by kernel_rfl) trivial _ _ _ (by kernel_rfl) ?_
      refine qM rfl rfl rfl ?_
      refine qs_y rfl rfl (yv_extract rfl rfl) ?_
      refine qs_y rfl rfl (yv_extract rfl rfl) ?_
      refine qs_nil ?_
      refine any_all [13] (by kernel_rfl) rfl ?_
      refine ⟨⟨_, rfl, ?_⟩, trivial⟩
      ·skip
       refine op_store (n := 1) (j := 0) (us := [bp121]) rfl rfl hH122 rfl T.sz24 rfl rfl rfl (all_one (SliceIs.one1 ((show Rd encE 5 bp121 B.three _ from hH122.get (n := 0) rfl)).is) rfl) (fun w123 hH124 => ?_)
       refine ops_nil ?_
       refine ⟨trivial, ?_⟩
       refine any_takes [14] (by kernel_rfl) trivial _ _ _ (by kernel_rfl) ?_
       refine qs_y rfl rfl (yv_assign rfl) (qs_nil ?_)
       refine any_done (by kernel_rfl) ?_
       refine mid_n (w123, b9, bp7, p29, p45, b112, bp121) (uC rfl (uC rfl (uC rfl (uC rfl (uC rfl (uC rfl (uC rfl (uC rfl (uC rfl (uC rfl (uC rfl (uC rfl (uC rfl (uC rfl (uC rfl (uC rfl (uC rfl (uC rfl (uC rfl (uC rfl (uC rfl (Sub.nil _)))))))))))))))))))))) ?_
       exact ⟨Heap.start w123, hH124.get (n := 12) rfl, Heap.bxw hH124 (n := 10) rfl, ((show Rd encE 5 bp7 B.three _ from hH124.get (n := 11) rfl)), (Heap.rdw T.el39_encW hH124 (n := 9) rfl), (Heap.rdw T.el39_encW hH124 (n := 7) rfl), Heap.bxw hH124 (n := 1) rfl, ((show Rd encE 5 bp121 B.three _ from hH124.get (n := 0) rfl))⟩
   ·skip
    refine op_alloc (z := (.agg #[(.slice none 0 0)])) (us := [(.slice none 0 0)]) (fun _ => by kernel_rfl) rfl rfl hH96 (fun b125 w126 hH127 => ?_)
    refine ops_nil ?_
    refine ⟨trivial, ?_⟩
    refine any_all [5] (by kernel_rfl) rfl ?_
    refine ⟨⟨_, rfl, ?_⟩, trivial⟩
    ·skip
     refine ops_y hH127 rfl rfl (yv_load T.one22 rfl (fun _ hw => Heap.cellw hw (n := 9) rfl rfl)) ?_
     refine ops_nil ?_
     refine ⟨trivial, ?_⟩
     obtain ⟨_, _, hb128, _⟩ := (Rd.upto ((show Rd encE 5 bp7 B.three _ from hH127.get (n := 10) rfl)) (hi := 2) (by omega)).is
     refine any_takes [6, 7] (by kernel_rfl) trivial _ _ _ (by kernel_rfl) ?_
     refine qs_y rfl rfl (yv_cut_hi T.sl22 rfl rfl ((show Rd encE 5 bp7 B.three _ from hH127.get (n := 10) rfl)).is (by omega)) ?_
     refine qs_y rfl rfl (yv_build (v := (.agg #[(cutv bp7 5 0 2)])) (us := [(0, (cutv bp7 5 0 2))]) (fun a ha => by simp [ha.ev (show ev _ (.tmp 91) = some _ from rfl)]) (fun w => by rw [hb128]; kernel_rfl)) ?_
     refine qs_nil ?_
     refine any_all [8] (by kernel_rfl) rfl ?_
     refine ⟨⟨_, rfl, ?_⟩, trivial⟩
     ·skip
      refine op_fn rfl rfl rfl hH127 ((by have h := c36 (Rd.from ((show Rd encE 5 bp7 B.three _ from hH127.get (n := 10) rfl)) (lo := 1) (by omega)) (Rd.upto ((show Rd encE 5 bp7 B.three _ from hH127.get (n := 10) rfl)) (hi := 2) (by omega)) (by decide) (by decide) (w := w126); simp only [K.j1] at h; exact h)) (fun u131 w129 lo132 hi133 hH130 hv134 => ?_)
      obtain ⟨bp135, hu, -⟩ := hv134
      subst hu
      have hH136 := Heap.weak (ψ := Rd encE 5 bp135 B.three) hH130 (n := 0) rfl (fun w' h => (by obtain ⟨p', e, h⟩ := h; rw [agg_slice e]; exact h))
      refine ops_nil ?_
      refine ⟨trivial, ?_⟩
      refine any_takes [9, 10, 11] (by kernel_rfl) trivial _ _ _ (by kernel_rfl) ?_
      refine qM rfl rfl rfl ?_
      refine qs_y rfl rfl (yv_extract rfl rfl) ?_
      refine qs_y rfl rfl (yv_extract rfl rfl) ?_
      refine qs_nil ?_
      refine any_all [13] (by kernel_rfl) rfl ?_
      refine ⟨⟨_, rfl, ?_⟩, trivial⟩
      ·skip
       refine op_store (n := 1) (j := 0) (us := [bp135]) rfl rfl hH136 rfl T.sz24 rfl rfl rfl (all_one (SliceIs.one1 ((show Rd encE 5 bp135 B.three _ from hH136.get (n := 0) rfl)).is) rfl) (fun w137 hH138 => ?_)
       refine ops_nil ?_
       refine ⟨trivial, ?_⟩
       refine any_takes [14] (by kernel_rfl) trivial _ _ _ (by kernel_rfl) ?_
       refine qs_y rfl rfl (yv_assign rfl) (qs_nil ?_)
       refine any_done (by kernel_rfl) ?_
       refine mid_n (w137, b9, bp7, p29, p45, b125, bp135) (uC rfl (uC rfl (uC rfl (uC rfl (uC rfl (uC rfl (uC rfl (uC rfl (uC rfl (uC rfl (uC rfl (uC rfl (uC rfl (uC rfl (uC rfl (uC rfl (uC rfl (uC rfl (uC rfl (uC rfl (uC rfl (Sub.nil _)))))))))))))))))))))) ?_
       exact ⟨Heap.start w137, hH138.get (n := 12) rfl, Heap.bxw hH138 (n := 10) rfl, ((show Rd encE 5 bp7 B.three _ from hH138.get (n := 11) rfl)), (Heap.rdw T.el39_encW hH138 (n := 9) rfl), (Heap.rdw T.el39_encW hH138 (n := 7) rfl), Heap.bxw hH138 (n := 1) rfl, ((show Rd encE 5 bp135 B.three _ from hH138.get (n := 0) rfl))⟩
  ·skip
   refine ops_y hH96 rfl rfl (yv_load T.one22 rfl (fun _ hw => Heap.cellw hw (n := 8) rfl rfl)) ?_
   refine ops_nil ?_
   refine ⟨trivial, ?_⟩
   obtain ⟨_, _, hb139, _⟩ := (Rd.upto ((show Rd encE 5 bp7 B.three _ from hH96.get (n := 9) rfl)) (hi := 2) (by omega)).is
   refine any_takes [6, 7] (by kernel_rfl) trivial _ _ _ (by kernel_rfl) ?_
   refine qs_y rfl rfl (yv_cut_hi T.sl22 rfl rfl ((show Rd encE 5 bp7 B.three _ from hH96.get (n := 9) rfl)).is (by omega)) ?_
   refine qs_y rfl rfl (yv_build (v := (.agg #[(cutv bp7 5 0 2)])) (us := [(0, (cutv bp7 5 0 2))]) (fun a ha => by simp [ha.ev (show ev _ (.tmp 91) = some _ from rfl)]) (fun w => by rw [hb139]; kernel_rfl)) ?_
   refine qs_nil ?_
   refine any_all [1, 12] (by kernel_rfl) rfl ?_
   refine ⟨⟨_, rfl, ?_⟩, ⟨_, rfl, ?_⟩, trivial⟩
   ·skip
    refine ops_y hH96 rfl rfl (yv_load T.one22 rfl (fun _ hw => Heap.cellw hw (n := 8) rfl rfl)) ?_
    refine ops_nil ?_
    refine ⟨trivial, ?_⟩
    obtain ⟨_, _, hb140, _⟩ := (Rd.from ((show Rd encE 5 bp7 B.three _ from hH96.get (n := 9) rfl)) (lo := 1) (by omega)).is
    refine any_takes [2, 3] (by kernel_rfl) trivial _ _ _ (by kernel_rfl) ?_
    refine qs_y rfl rfl (yv_cut_lo T.sl22 rfl rfl ((show Rd encE 5 bp7 B.three _ from hH96.get (n := 9) rfl)).is (by omega)) ?_
    refine qs_y rfl rfl (yv_build (v := (.agg #[(cutv bp7 5 1 B.three.length)])) (us := [(0, (cutv bp7 5 1 B.three.length))]) (fun a ha => by simp [ha.ev (show ev _ (.tmp 87) = some _ from rfl)]) (fun w => by rw [hb140]; kernel_rfl)) ?_
    refine qs_nil ?_
    refine any_all [8, 12] (by kernel_rfl) rfl ?_
    refine ⟨⟨_, rfl, ?_⟩, ⟨_, rfl, ?_⟩, trivial⟩
    ·skip
     refine op_fn rfl rfl rfl hH96 ((by have h := c36 (Rd.from ((show Rd encE 5 bp7 B.three _ from hH96.get (n := 9) rfl)) (lo := 1) (by omega)) (Rd.upto ((show Rd encE 5 bp7 B.three _ from hH96.get (n := 9) rfl)) (hi := 2) (by omega)) (by decide) (by decide) (w := w94); simp only [K.j1] at h; exact h)) (fun u143 w141 lo144 hi145 hH142 hv146 => ?_)
     obtain ⟨bp147, hu, -⟩ := hv146
     subst hu
     have hH148 := Heap.weak (ψ := Rd encE 5 bp147 B.three) hH142 (n := 0) rfl (fun w' h => (by obtain ⟨p', e, h⟩ := h; rw [agg_slice e]; exact h))
     refine ops_nil ?_
     refine ⟨trivial, ?_⟩
     refine any_takes [9, 10, 11] (by kernel_rfl) trivial _ _ _ (by kernel_rfl) ?_
     refine qM rfl rfl rfl ?_
     refine qs_y rfl rfl (yv_extract rfl rfl) ?_
     refine qs_y rfl rfl (yv_extract rfl rfl) ?_
     refine qs_nil ?_
     refine any_all [12] (by kernel_rfl) rfl ?_
     refine ⟨⟨_, rfl, ?_⟩, trivial⟩
     ·skip
      refine op_alloc (z := (.agg #[(.slice none 0 0)])) (us := [(.slice none 0 0)]) (fun _ => by kernel_rfl) rfl rfl hH148 (fun b149 w150 hH151 => ?_)
      refine ops_nil ?_
      refine ⟨trivial, ?_⟩
      refine any_all [13] (by kernel_rfl) rfl ?_
      refine ⟨⟨_, rfl, ?_⟩, trivial⟩
      ·skip
       refine op_store (n := 0) (j := 0) (us := [bp147]) rfl rfl hH151 rfl T.sz24 rfl rfl rfl (all_one (SliceIs.one1 ((show Rd encE 5 bp147 B.three _ from hH151.get (n := 1) rfl)).is) rfl) (fun w152 hH153 => ?_)
       refine ops_nil ?_
       refine ⟨trivial, ?_⟩
       refine any_takes [14] (by kernel_rfl) trivial _ _ _ (by kernel_rfl) ?_
       refine qs_y rfl rfl (yv_assign rfl) (qs_nil ?_)
       refine any_done (by kernel_rfl) ?_
       refine mid_n (w152, b9, bp7, p29, p45, b149, bp147) (uC rfl (uC rfl (uC rfl (uC rfl (uC rfl (uC rfl (uC rfl (uC rfl (uC rfl (uC rfl (uC rfl (uC rfl (uC rfl (uC rfl (uC rfl (uC rfl (uC rfl (uC rfl (uC rfl (uC rfl (uC rfl (Sub.nil _)))))))))))))))))))))) ?_
       exact ⟨Heap.start w152, hH153.get (n := 12) rfl, Heap.bxw hH153 (n := 10) rfl, ((show Rd encE 5 bp7 B.three _ from hH153.get (n := 11) rfl)), (Heap.rdw T.el39_encW hH153 (n := 9) rfl), (Heap.rdw T.el39_encW hH153 (n := 7) rfl), Heap.bxw hH153 (n := 0) rfl, ((show Rd encE 5 bp147 B.three _ from hH153.get (n := 1) rfl))⟩
    ·skip
     refine op_alloc (z := (.agg #[(.slice none 0 0)])) (us := [(.slice none 0 0)]) (fun _ => by kernel_rfl) rfl rfl hH96 (fun b154 w155 hH156 => ?_)
     refine ops_nil ?_
     refine ⟨trivial, ?_⟩
     refine any_all [8] (by kernel_rfl) rfl ?_
     refine ⟨⟨_, rfl, ?_⟩, trivial⟩
     ·skip
      refine op_fn rfl rfl rfl hH156 ((by have h := c36 (Rd.from ((show Rd encE 5 bp7 B.three _ from hH156.get (n := 10) rfl)) (lo := 1) (by omega)) (Rd.upto ((show Rd encE 5 bp7 B.three _ from hH156.get (n := 10) rfl)) (hi := 2) (by omega)) (by decide) (by decide) (w := w155); simp only [K.j1] at h; exact h)) (fun u159 w157 lo160 hi161 hH158 hv162 => ?_)
      obtain ⟨bp163, hu, -⟩ := hv162
      subst hu
      have hH164 := Heap.weak (ψ := Rd encE 5 bp163 B.three) hH158 (n := 0) rfl (fun w' h => (by obtain ⟨p', e, h⟩ := h; rw [agg_slice e]; exact h))
      refine ops_nil ?_
      refine ⟨trivial, ?_⟩
      refine any_takes [9, 10, 11] (by kernel_rfl) trivial _ _ _ (by kernel_rfl) ?_
      refine qM rfl rfl rfl ?_
      refine qs_y rfl rfl (yv_extract rfl rfl) ?_
      refine qs_y rfl rfl (yv_extract rfl rfl) ?_
      refine qs_nil ?_
      refine any_all [13] (by kernel_rfl) rfl ?_
      refine ⟨⟨_, rfl, ?_⟩, trivial⟩
      ·skip
       refine op_store (n := 1) (j := 0) (us := [bp163]) rfl rfl hH164 rfl T.sz24 rfl rfl rfl (all_one (SliceIs.one1 ((show Rd encE 5 bp163 B.three _ from hH164.get (n := 0) rfl)).is) rfl) (fun w165 hH166 => ?_)
       refine ops_nil ?_
       refine ⟨trivial, ?_⟩
       refine any_takes [14] (by kernel_rfl) trivial _ _ _ (by kernel_rfl) ?_
       refine qs_y rfl rfl (yv_assign rfl) (qs_nil ?_)
       refine any_done (by kernel_rfl) ?_
       refine mid_n (w165, b9, bp7, p29, p45, b154, bp163) (uC rfl (uC rfl (uC rfl (uC rfl (uC rfl (uC rfl (uC rfl (uC rfl (uC rfl (uC rfl (uC rfl (uC rfl (uC rfl (uC rfl (uC rfl (uC rfl (uC rfl (uC rfl (uC rfl (uC rfl (uC rfl (Sub.nil _)))))))))))))))))))))) ?_
       exact ⟨Heap.start w165, hH166.get (n := 12) rfl, Heap.bxw hH166 (n := 10) rfl, ((show Rd encE 5 bp7 B.three _ from hH166.get (n := 11) rfl)), (Heap.rdw T.el39_encW hH166 (n := 9) rfl), (Heap.rdw T.el39_encW hH166 (n := 7) rfl), Heap.bxw hH166 (n := 1) rfl, ((show Rd encE 5 bp163 B.three _ from hH166.get (n := 0) rfl))⟩
   ·skip
    refine op_alloc (z := (.agg #[(.slice none 0 0)])) (us := [(.slice none 0 0)]) (fun _ => by kernel_rfl) rfl rfl hH96 (fun b167 w168 hH169 => ?_)
    refine ops_nil ?_
    refine ⟨trivial, ?_⟩
    refine any_all [1] (by kernel_rfl) rfl ?_
    refine ⟨⟨_, rfl, ?_⟩, trivial⟩
    ·skip
     refine ops_y hH169 rfl rfl (yv_load T.one22 rfl (fun _ hw => Heap.cellw hw (n := 9) rfl rfl)) ?_
     refine ops_nil ?_
     refine ⟨trivial, ?_⟩
     obtain ⟨_, _, hb170, _⟩ := (Rd.from ((show Rd encE 5 bp7 B.three _ from hH169.get (n := 10) rfl)) (lo := 1) (by omega)).is
     refine any_takes [2, 3] (by kernel_rfl) trivial _ _ _ (by kernel_rfl) ?_
     refine qs_y rfl rfl (yv_cut_lo T.sl22 rfl rfl ((show Rd encE 5 bp7 B.three _ from hH169.get (n := 10) rfl)).is (by omega)) ?_
     refine qs_y rfl rfl (yv_build (v := (.agg #[(cutv bp7 5 1 B.three.length)])) (us := [(0, (cutv bp7 5 1 B.three.length))]) (fun a ha => by simp [ha.ev (show ev _ (.tmp 87) = some _ from rfl)]) (fun w => by rw [hb170]; kernel_rfl)) ?_
     refine qs_nil ?_
     refine any_all [8] (by kernel_rfl) rfl ?_
     refine ⟨⟨_, rfl, ?_⟩, trivial⟩
     ·skip
      refine op_fn rfl rfl rfl hH169 ((by have h := c36 (Rd.from ((show Rd encE 5 bp7 B.three _ from hH169.get (n := 10) rfl)) (lo := 1) (by omega)) (Rd.upto ((show Rd encE 5 bp7 B.three _ from hH169.get (n := 10) rfl)) (hi := 2) (by omega)) (by decide) (by decide) (w := w168); simp only [K.j1] at h; exact h)) (fun u173 w171 lo174 hi175 hH172 hv176 => ?_)
      obtain ⟨bp177, hu, -⟩ := hv176
      subst hu
      have hH178 := Heap.weak (ψ := Rd encE 5 bp177 B.three) hH172 (n := 0) rfl (fun w' h => (by obtain ⟨p', e, h⟩ := h; rw [agg_slice e]; exact h))
      refine ops_nil ?_
      refine ⟨trivial, ?_⟩
      refine any_takes [9, 10, 11] (by kernel_rfl) trivial _ _ _ (by kernel_rfl) ?_
      refine qM rfl rfl rfl ?_
      refine qs_y rfl rfl (yv_extract rfl rfl) ?_
      refine qs_y rfl rfl (yv_extract rfl rfl) ?_
      refine qs_nil ?_
      refine any_all [13] (by kernel_rfl) rfl ?_
      refine ⟨⟨_, rfl, ?_⟩, trivial⟩
      ·skip
       refine op_store (n := 1) (j := 0) (us := [bp177]) rfl rfl hH178 rfl T.sz24 rfl rfl rfl (all_one (SliceIs.one1 ((show Rd encE 5 bp177 B.three _ from hH178.get (n := 0) rfl)).is) rfl) (fun w179 hH180 => ?_)
       refine ops_nil ?_
       refine ⟨trivial, ?_⟩
       refine any_takes [14] (by kernel_rfl) trivial _ _ _ (by kernel_rfl) ?_
       refine qs_y rfl rfl (yv_assign rfl) (qs_nil ?_)
       refine any_done (by kernel_rfl) ?_
       refine mid_n (w179, b9, bp7, p29, p45, b167, bp177) (uC rfl (uC rfl (uC rfl (uC rfl (uC rfl (uC rfl (uC rfl (uC rfl (uC rfl (uC rfl (uC rfl (uC rfl (uC rfl (uC rfl (uC rfl (uC rfl (uC rfl (uC rfl (uC rfl (uC rfl (uC rfl (Sub.nil _)))))))))))))))))))))) ?_
       exact ⟨Heap.start w179, hH180.get (n := 12) rfl, Heap.bxw hH180 (n := 10) rfl, ((show Rd encE 5 bp7 B.three _ from hH180.get (n := 11) rfl)), (Heap.rdw T.el39_encW hH180 (n := 9) rfl), (Heap.rdw T.el39_encW hH180 (n := 7) rfl), Heap.bxw hH180 (n := 1) rfl, ((show Rd encE 5 bp177 B.three _ from hH180.get (n := 0) rfl))⟩
  ·skip
   refine op_alloc (z := (.agg #[(.slice none 0 0)])) (us := [(.slice none 0 0)]) (fun _ => by kernel_rfl) rfl rfl hH96 (fun b181 w182 hH183 => ?_)
   refine ops_nil ?_
   refine ⟨trivial, ?_⟩
   refine any_all [1, 5] (by kernel_rfl) rfl ?_
   refine ⟨⟨_, rfl, ?_⟩, ⟨_, rfl, ?_⟩, trivial⟩
   ·skip
    refine ops_y hH183 rfl rfl (yv_load T.one22 rfl (fun _ hw => Heap.cellw hw (n := 9) rfl rfl)) ?_
    refine ops_nil ?_
    refine ⟨trivial, ?_⟩
    obtain ⟨_, _, hb184, _⟩ := (Rd.from ((show Rd encE 5 bp7 B.three _ from hH183.get (n := 10) rfl)) (lo := 1) (by omega)).is
    refine any_takes [2, 3] (by kernel_rfl) trivial _ _ _ (by kernel_rfl) ?_
    refine qs_y rfl rfl (yv_cut_lo T.sl22 rfl rfl ((show Rd encE 5 bp7 B.three _ from hH183.get (n := 10) rfl)).is (by omega)) ?_
    refine qs_y rfl rfl (yv_build (v := (.agg #[(cutv bp7 5 1 B.three.length)])) (us := [(0, (cutv bp7 5 1 B.three.length))]) (fun a ha => by simp [ha.ev (show ev _ (.tmp 87) = some _ from rfl)]) (fun w => by rw [hb184]; kernel_rfl)) ?_
    refine qs_nil ?_
    refine any_all [5] (by kernel_rfl) rfl ?_
    refine ⟨⟨_, rfl, ?_⟩, trivial⟩
    ·skip
     refine ops_y hH183 rfl rfl (yv_load T.one22 rfl (fun _ hw => Heap.cellw hw (n := 9) rfl rfl)) ?_
     refine ops_nil ?_
     refine ⟨trivial, ?_⟩
     obtain ⟨_, _, hb185, _⟩ := (Rd.upto ((show Rd encE 5 bp7 B.three _ from hH183.get (n := 10) rfl)) (hi := 2) (by omega)).is
     refine any_takes [6, 7] (by kernel_rfl) trivial _ _ _ (by kernel_rfl) ?_
     refine qs_y rfl rfl (yv_cut_hi T.sl22 rfl rfl ((show Rd encE 5 bp7 B.three _ from hH183.get (n := 10) rfl)).is (by omega)) ?_
     refine qs_y rfl rfl (yv_build (v := (.agg #[(cutv bp7 5 0 2)])) (us := [(0, (cutv bp7 5 0 2))]) (fun a ha => by simp [ha.ev (show ev _ (.tmp 91) = some _ from rfl)]) (fun w => by rw [hb185]; kernel_rfl)) ?_
     refine qs_nil ?_
     refine any_all [8] (by kernel_rfl) rfl ?_
     refine ⟨⟨_, rfl, ?_⟩, trivial⟩
     ·skip
      refine op_fn rfl rfl rfl hH183 ((by have h := c36 (Rd.from ((show Rd encE 5 bp7 B.three _ from hH183.get (n := 10) rfl)) (lo := 1) (by omega)) (Rd.upto ((show Rd encE 5 bp7 B.three _ from hH183.get (n := 10) rfl)) (hi := 2) (by omega)) (by decide) (by decide) (w := w182); simp only [K.j1] at h; exact h)) (fun u188 w186 lo189 hi190 hH187 hv191 => ?_)
      obtain ⟨bp192, hu, -⟩ := hv191
      subst hu
      have hH193 := Heap.weak (ψ := Rd encE 5 bp192 B.three) hH187 (n := 0) rfl (fun w' h => (by obtain ⟨p', e, h⟩ := h; rw [agg_slice e]; exact h))
      refine ops_nil ?_
      refine ⟨trivial, ?_⟩
      refine any_takes [9, 10, 11] (by kernel_rfl) trivial _ _ _ (by kernel_rfl) ?_
      refine qM rfl rfl rfl ?_
      refine qs_y rfl rfl (yv_extract rfl rfl) ?_
      refine qs_y rfl rfl (yv_extract rfl rfl) ?_
      refine qs_nil ?_
      refine any_all [13] (by kernel_rfl) rfl ?_
      refine ⟨⟨_, rfl, ?_⟩, trivial⟩
      ·skip
       refine op_store (n := 1) (j := 0) (us := [bp192]) rfl rfl hH193 rfl T.sz24 rfl rfl rfl (all_one (SliceIs.one1 ((show Rd encE 5 bp192 B.three _ from hH193.get (n := 0) rfl)).is) rfl) (fun w194 hH195 => ?_)
       refine ops_nil ?_
       refine ⟨trivial, ?_⟩
       refine any_takes [14] (by kernel_rfl) trivial _ _ _ (by kernel_rfl) ?_
       refine qs_y rfl rfl (yv_assign rfl) (qs_nil ?_)
       refine any_done (by kernel_rfl) ?_
       refine mid_n (w194, b9, bp7, p29, p45, b181, bp192) (uC rfl (uC rfl (uC rfl (uC rfl (uC rfl (uC rfl (uC rfl (uC rfl (uC rfl (uC rfl (uC rfl (uC rfl (uC rfl (uC rfl (uC rfl (uC rfl (uC rfl (uC rfl (uC rfl (uC rfl (uC rfl (Sub.nil _)))))))))))))))))))))) ?_
       exact ⟨Heap.start w194, hH195.get (n := 12) rfl, Heap.bxw hH195 (n := 10) rfl, ((show Rd encE 5 bp7 B.three _ from hH195.get (n := 11) rfl)), (Heap.rdw T.el39_encW hH195 (n := 9) rfl), (Heap.rdw T.el39_encW hH195 (n := 7) rfl), Heap.bxw hH195 (n := 1) rfl, ((show Rd encE 5 bp192 B.three _ from hH195.get (n := 0) rfl))⟩
   ·skip
    refine ops_y hH183 rfl rfl (yv_load T.one22 rfl (fun _ hw => Heap.cellw hw (n := 9) rfl rfl)) ?_
    refine ops_nil ?_
    refine ⟨trivial, ?_⟩
    obtain ⟨_, _, hb196, _⟩ := (Rd.upto ((show Rd encE 5 bp7 B.three _ from hH183.get (n := 10) rfl)) (hi := 2) (by omega)).is
    refine any_takes [6, 7] (by kernel_rfl) trivial _ _ _ (by kernel_rfl) ?_
    refine qs_y rfl rfl (yv_cut_hi T.sl22 rfl rfl ((show Rd encE 5 bp7 B.three _ from hH183.get (n := 10) rfl)).is (by omega)) ?_
    refine qs_y rfl rfl (yv_build (v := (.agg #[(cutv bp7 5 0 2)])) (us := [(0, (cutv bp7 5 0 2))]) (fun a ha => by simp [ha.ev (show ev _ (.tmp 91) = some _ from rfl)]) (fun w => by rw [hb196]; kernel_rfl)) ?_
    refine qs_nil ?_
    refine any_all [1] (by kernel_rfl) rfl ?_
    refine ⟨⟨_, rfl, ?_⟩, trivial⟩
    ·skip
     refine ops_y hH183 rfl rfl (yv_load T.one22 rfl (fun _ hw => Heap.cellw hw (n := 9) rfl rfl)) ?_
     refine ops_nil ?_
     refine ⟨trivial, ?_⟩
     obtain ⟨_, _, hb197, _⟩ := (Rd.from ((show Rd encE 5 bp7 B.three _ from hH183.get (n := 10) rfl)) (lo := 1) (by omega)).is
     refine any_takes [2, 3] (by kernel_rfl) trivial _ _ _ (by kernel_rfl) ?_
     refine qs_y rfl rfl (yv_cut_lo T.sl22 rfl rfl ((show Rd encE 5 bp7 B.three _ from hH183.get (n := 10) rfl)).is (by omega)) ?_
     refine qs_y rfl rfl (yv_build (v := (.agg #[(cutv bp7 5 1 B.three.length)])) (us := [(0, (cutv bp7 5 1 B.three.length))]) (fun a ha => by simp [ha.ev (show ev _ (.tmp 87) = some _ from rfl)]) (fun w => by rw [hb197]; kernel_rfl)) ?_
     refine qs_nil ?_
     refine any_all [8] (by kernel_rfl) rfl ?_
     refine ⟨⟨_, rfl, ?_⟩, trivial⟩
     ·skip
      refine op_fn rfl rfl rfl hH183 ((by have h := c36 (Rd.from ((show Rd encE 5 bp7 B.three _ from hH183.get (n := 10) rfl)) (lo := 1) (by omega)) (Rd.upto ((show Rd encE 5 bp7 B.three _ from hH183.get (n := 10) rfl)) (hi := 2) (by omega)) (by decide) (by decide) (w := w182); simp only [K.j1] at h; exact h)) (fun u200 w198 lo201 hi202 hH199 hv203 => ?_)
      obtain ⟨bp204, hu, -⟩ := hv203
      subst hu
      have hH205 := Heap.weak (ψ := Rd encE 5 bp204 B.three) hH199 (n := 0) rfl (fun w' h => (by obtain ⟨p', e, h⟩ := h; rw [agg_slice e]; exact h))
      refine ops_nil ?_
      refine ⟨trivial, ?_⟩
      refine any_takes [9, 10, 11] (by kernel_rfl) trivial _ _ _ (by kernel_rfl) ?_
      refine qM rfl rfl rfl ?_
      refine qs_y rfl rfl (yv_extract rfl rfl) ?_
      refine qs_y rfl rfl (yv_extract rfl rfl) ?_
      refine qs_nil ?_
      refine any_all [13] (by kernel_rfl) rfl ?_
      refine ⟨⟨_, rfl, ?_⟩, trivial⟩
      ·skip
       refine op_store (n := 1) (j := 0) (us := [bp204]) rfl rfl hH205 rfl T.sz24 rfl rfl rfl (all_one (SliceIs.one1 ((show Rd encE 5 bp204 B.three _ from hH205.get (n := 0) rfl)).is) rfl) (fun w206 hH207 => ?_)
       refine ops_nil ?_
       refine ⟨trivial, ?_⟩
       refine any_takes [14] (by kernel_rfl) trivial _ _ _ (by kernel_rfl) ?_
       refine qs_y rfl rfl (yv_assign rfl) (qs_nil ?_)
       refine any_done (by kernel_rfl) ?_
       refine mid_n (w206, b9, bp7, p29, p45, b181, bp204) (uC rfl (uC rfl (uC rfl (uC rfl (uC rfl (uC rfl (uC rfl (uC rfl (uC rfl (uC rfl (uC rfl (uC rfl (uC rfl (uC rfl (uC rfl (uC rfl (uC rfl (uC rfl (uC rfl (uC rfl (uC rfl (Sub.nil _)))))))))))))))))))))) ?_
       exact ⟨Heap.start w206, hH207.get (n := 12) rfl, Heap.bxw hH207 (n := 10) rfl, ((show Rd encE 5 bp7 B.three _ from hH207.get (n := 11) rfl)), (Heap.rdw T.el39_encW hH207 (n := 9) rfl), (Heap.rdw T.el39_encW hH207 (n := 7) rfl), Heap.bxw hH207 (n := 1) rfl, ((show Rd encE 5 bp204 B.three _ from hH207.get (n := 0) rfl))⟩
 ·rintro ⟨w0, b1, v1, v10, v14, b22, v22⟩ w208 ⟨hH209, hbw, q1, r1, r10, r14, q22, r22⟩
  show Holds _ _ _ _ _ [(1, (.pointer (some ⟨b1, 0, none⟩))), (10, v10), (14, v14), (22, (.pointer (some ⟨b22, 0, none⟩))), (23, (.int .i64 0)), (0, (.bool false)), (2, (.int .i64 (-250))), (3, (.int .i64 0)), (5, (.int .i64 2)), (6, (.int .u64 12638187200555641996)), (7, (.int .i64 0)), (8, (.int .u64 6719674455804711816)), (9, (.int .i64 0)), (11, (.int .i64 0)), (13, (.int .i64 3)), (15, (.int .i64 0)), (17, (.int .i64 2)), (18, (.int .i64 0)), (19, (.int .i64 25)), (20, (.int .i64 0)), (21, (.int .i64 25))] _ _
  refine seq (region ?_)
  refine ops_y hH209 rfl rfl (yv_loadA (cs := [v1]) T.agg24 rfl rfl (fun _ hw => bx_cells (q1.now hw (n := 0) rfl) (k := 0) rfl)) ?_
  refine op_fnV rfl rfl rfl hH209 ((by have h := c38 (r1.now hH209 (n := 0) rfl) (by decide) ((hG.below hbw).now hH209 (n := 0) rfl)  (w := w208); simp only [K.f1] at h; exact h)) (fun w210 hH211 => ?_)
  refine oM hH211 rfl rfl (ops_y hH211 rfl rfl (yv_extract rfl rfl) (ops_y hH211 rfl rfl (yv_extract rfl rfl) (oA hH211 rfl rfl (oA hH211 rfl rfl (ops_nil (thn_n (seq (region (oM hH211 rfl rfl ?_)))))))))
  refine op_fn rfl rfl rfl hH211 ((by have h := c40 (l := [52, 32, 49, 48, 32, 49, 32, 50, 32, 51, 48, 48, 10, 55, 32, 49, 48, 32, 50, 32, 51, 32, 49, 50, 48, 10, 53, 32, 49, 50, 32, 51, 32, 49, 32, 53, 48, 10, 115, 117, 109, 32, 53, 100, 52, 49, 49, 52, 53, 48, 98, 48, 56, 49, 57, 51, 56, 56, 10]) ((hG.below hbw).now hH211 (n := 0) rfl) (by decide) (w := w210); simp only [K.l1] at h; exact h)) (fun u214 w212 lo215 hi216 hH213 hv217 => ?_)
  obtain ⟨bp218, hu, -⟩ := hv217
  subst hu
  have hH219 := Heap.weak (ψ := Rd encE 5 bp218 B.three) hH213 (n := 0) rfl (fun w' h => (by obtain ⟨p', e, h⟩ := h; rw [agg_slice e]; exact h))
  refine oM hH219 rfl rfl (ops_y hH219 rfl rfl (yv_extract rfl rfl) (ops_y hH219 rfl rfl (yv_extract rfl rfl) ?_))
  refine op_alloc (z := (.agg #[(.slice none 0 0)])) (us := [(.slice none 0 0)]) (fun _ => by kernel_rfl) rfl rfl hH219 (fun b220 w221 hH222 => ?_)
  refine op_store (n := 0) (j := 0) (us := [bp218]) rfl rfl hH222 rfl T.sz24 rfl rfl rfl (all_one (SliceIs.one1 ((show Rd encE 5 bp218 B.three _ from hH222.get (n := 1) rfl)).is) rfl) (fun w223 hH224 => ?_)
  refine oA hH224 rfl rfl (ops_nil (thn_n (seq (region ?_))))
  refine op_fnV rfl rfl rfl hH224 ((by have h := c55 (x := 6719674455804711816) (w := w223); simp only [K.n1] at h; exact h)) (fun w225 hH226 => ?_)
  refine ops_y hH226 rfl rfl (yv_cat rfl rfl (by simp only [List.length_cons, List.length_nil, B.hex_length]; omega)) ?_
  refine ops_y hH226 rfl rfl (yv_castS K.sl (yv_cat rfl rfl (by rw [List.length_append]; simp only [List.length_cons, List.length_nil, B.hex_length]; omega))) ?_
  refine op_fn rfl rfl rfl hH226 ((by have h := c40 (l := [115, 117, 109, 32, 53, 100, 52, 49, 49, 52, 53, 48, 98, 48, 56, 49, 57, 51, 56, 56, 10]) ((hG.below hbw).now hH226 (n := 2) rfl) (by decide) (w := w225); simp only [K.l2] at h; exact h)) (fun u229 w227 lo230 hi231 hH228 hv232 => ?_)
  obtain ⟨bp233, hu, -⟩ := hv232
  subst hu
  have hH234 := Heap.weak (ψ := Rd encE 5 bp233 ([] : List En)) hH228 (n := 0) rfl (fun w' h => (by obtain ⟨p', e, h⟩ := h; rw [agg_slice e]; exact h))
  refine oM hH234 rfl rfl (ops_y hH234 rfl rfl (yv_extract rfl rfl) (ops_y hH234 rfl rfl (yv_extract rfl rfl) ?_))
  refine op_alloc (z := (.agg #[(.slice none 0 0)])) (us := [(.slice none 0 0)]) (fun _ => by kernel_rfl) rfl rfl hH234 (fun b235 w236 hH237 => ?_)
  refine op_store (n := 0) (j := 0) (us := [bp233]) rfl rfl hH237 rfl T.sz24 rfl rfl rfl (all_one (SliceIs.one1 ((show Rd encE 5 bp233 ([] : List En) _ from hH237.get (n := 1) rfl)).is) rfl) (fun w238 hH239 => ?_)
  refine oA hH239 rfl rfl (ops_nil (thn_n (seq (seq (region (oM hH239 rfl rfl ?_))))))
  refine ops_y hH239 rfl rfl (yv_castB rfl (yv_neq rfl rfl)) ?_
  refine oM hH239 rfl rfl (guard_yes rfl rfl rfl (oM hH239 rfl rfl (guard_yes rfl rfl rfl ?_)))
  refine ops_y hH239 rfl rfl (yv_castB rfl (yv_neq rfl rfl)) ?_
  refine ops_y hH239 rfl rfl (yv_pick_f rfl rfl rfl) ?_
  refine oM hH239 rfl rfl (guard_yes rfl rfl rfl (oM hH239 rfl rfl (guard_yes rfl rfl rfl ?_)))
  refine ops_y hH239 rfl rfl (yv_castB rfl (yv_neq rfl rfl)) ?_
  refine ops_y hH239 rfl rfl (yv_pick_f rfl rfl rfl) ?_
  refine oM hH239 rfl rfl (guard_yes rfl rfl rfl (oM hH239 rfl rfl (guard_yes rfl rfl rfl ?_)))
  refine ops_y hH239 rfl rfl (yv_castB rfl (yv_neq rfl rfl)) ?_
  refine ops_y hH239 rfl rfl (yv_pick_f rfl rfl rfl) ?_
  refine oM hH239 rfl rfl (guard_yes rfl rfl rfl (oM hH239 rfl rfl (guard_yes rfl rfl rfl ?_)))
  refine ops_y hH239 rfl rfl (yv_castB rfl (yv_neq rfl rfl)) ?_
  refine ops_y hH239 rfl rfl (yv_pick_f rfl rfl rfl) ?_
  refine oM hH239 rfl rfl (guard_yes rfl rfl rfl (oM hH239 rfl rfl (guard_yes rfl rfl rfl ?_)))
  refine ops_y hH239 rfl rfl (yv_castB rfl (yv_neq rfl rfl)) ?_
  refine ops_y hH239 rfl rfl (yv_pick_f rfl rfl rfl) ?_
  refine oM hH239 rfl rfl (guard_yes rfl rfl rfl (oM hH239 rfl rfl (guard_yes rfl rfl rfl ?_)))
  refine ops_y hH239 rfl rfl (yv_castB rfl (yv_neq rfl rfl)) ?_
  refine ops_y hH239 rfl rfl (yv_pick_f rfl rfl rfl) ?_
  refine oM hH239 rfl rfl (guard_yes rfl rfl rfl (oM hH239 rfl rfl (guard_yes rfl rfl rfl ?_)))
  refine ops_y hH239 rfl rfl (yv_castB rfl (yv_neq rfl rfl)) ?_
  refine ops_y hH239 rfl rfl (yv_pick_f rfl rfl rfl) ?_
  refine oM hH239 rfl rfl (guard_yes rfl rfl rfl (oM hH239 rfl rfl (guard_yes rfl rfl rfl ?_)))
  refine ops_y hH239 rfl rfl (yv_castB rfl (yv_neq rfl rfl)) ?_
  refine ops_y hH239 rfl rfl (yv_pick_f rfl rfl rfl) ?_
  refine oM hH239 rfl rfl (guard_yes rfl rfl rfl (oM hH239 rfl rfl (guard_yes rfl rfl rfl ?_)))
  refine ops_y hH239 rfl rfl (yv_castB rfl (yv_neq rfl rfl)) ?_
  refine ops_y hH239 rfl rfl (yv_pick_f rfl rfl rfl) ?_
  refine oM hH239 rfl rfl (guard_yes rfl rfl rfl (oM hH239 rfl rfl (guard_yes rfl rfl rfl ?_)))
  refine ops_y hH239 rfl rfl (yv_castB rfl (yv_neq rfl rfl)) ?_
  refine ops_y hH239 rfl rfl (yv_pick_f rfl rfl rfl) ?_
  refine oM hH239 rfl rfl (guard_yes rfl rfl rfl (oM hH239 rfl rfl (guard_yes rfl rfl rfl ?_)))
  refine ops_y hH239 rfl rfl (yv_castB rfl (yv_neq rfl rfl)) ?_
  refine ops_y hH239 rfl rfl (yv_pick_f rfl rfl rfl) ?_
  refine oM hH239 rfl rfl (guard_yes rfl rfl rfl (oM hH239 rfl rfl (guard_yes rfl rfl rfl ?_)))
  refine ops_y hH239 rfl rfl (yv_castB rfl (yv_neq rfl rfl)) ?_
  refine ops_y hH239 rfl rfl (yv_pick_f rfl rfl rfl) ?_
  refine oM hH239 rfl rfl (guard_yes rfl rfl rfl (oM hH239 rfl rfl (guard_yes rfl rfl rfl ?_)))
  refine ops_y hH239 rfl rfl (yv_castB rfl (yv_neq rfl rfl)) ?_
  refine ops_y hH239 rfl rfl (yv_pick_f rfl rfl rfl) ?_
  refine oM hH239 rfl rfl (guard_yes rfl rfl rfl (oM hH239 rfl rfl (guard_yes rfl rfl rfl ?_)))
  refine ops_y hH239 rfl rfl (yv_castB rfl (yv_neq rfl rfl)) ?_
  refine ops_y hH239 rfl rfl (yv_pick_f rfl rfl rfl) ?_
  refine oM hH239 rfl rfl (guard_yes rfl rfl rfl (oM hH239 rfl rfl (guard_yes rfl rfl rfl ?_)))
  refine ops_y hH239 rfl rfl (yv_castB rfl (yv_neq rfl rfl)) ?_
  refine ops_y hH239 rfl rfl (yv_pick_f rfl rfl rfl) ?_
  refine ops_nil (thn_n ?_)
  refine cond_f rfl rfl ?_
  refine skip (thn_n (seq (region (oM hH239 rfl rfl ?_))))
  refine ops_y hH239 rfl rfl (yv_castB rfl (yv_eql rfl rfl)) ?_
  refine oM hH239 rfl rfl (guard_yes rfl rfl rfl (oM hH239 rfl rfl (guard_yes rfl rfl rfl ?_)))
  refine ops_y hH239 rfl rfl (yv_castB rfl (yv_eql rfl rfl)) ?_
  refine ops_y hH239 rfl rfl (yv_pick_t rfl rfl rfl) ?_
  refine oM hH239 rfl rfl (guard_yes rfl rfl rfl (oM hH239 rfl rfl (guard_yes rfl rfl rfl ?_)))
  refine ops_y hH239 rfl rfl (yv_castB rfl (yv_eql rfl rfl)) ?_
  refine ops_y hH239 rfl rfl (yv_pick_t rfl rfl rfl) ?_
  refine oM hH239 rfl rfl (guard_yes rfl rfl rfl (oM hH239 rfl rfl (guard_yes rfl rfl rfl ?_)))
  refine op_lit (us := [(0, (.int .u64 15774714427196812772)), (1, (.int .u64 4767282599215168177))]) T.el39_encW [(15774714427196812772 : UInt64), (4767282599215168177 : UInt64)] rfl (by decide) rfl (fun a ha => by simp [ha.ev (show ev _ (.const (.int .u64 15774714427196812772)) = some _ from rfl), ha.ev (show ev _ (.const (.int .u64 4767282599215168177)) = some _ from rfl)]) (fun w => by kernel_rfl) hH239 (fun u240 lo242 hi243 w241 hH244 => ?_)
  refine guard_yes rfl rfl rfl ?_
  refine op_fnV rfl rfl rfl hH244 (c53) (fun w245 hH246 => ?_)
  refine guard_yes rfl rfl rfl ?_
  refine op_fnV rfl rfl rfl hH246 (c29 (r10.now hH246 (n := 5) rfl) (Heap.rdw T.el39_encW hH246 (n := 0) rfl) (by decide) (by decide)) (fun w247 hH248 => ?_)
  refine ops_y hH248 rfl rfl (yv_pick_t rfl rfl rfl) ?_
  refine oM hH248 rfl rfl ?_
  have hc249 : ([15774714427196812772, 4767282599215168177] : List UInt64) = [(15774714427196812772 : UInt64), (4767282599215168177 : UInt64)] := rfl
  refine guard_yes rfl rfl (dT hc249) ?_
  refine oM hH248 rfl rfl ?_
  refine guard_yes rfl rfl (dT hc249) ?_
  refine op_lit (us := [(0, (.int .u64 15774714427196812772)), (1, (.int .u64 4767282599215168177))]) T.el39_encW [(15774714427196812772 : UInt64), (4767282599215168177 : UInt64)] rfl (by decide) rfl (fun a ha => by simp [ha.ev (show ev _ (.const (.int .u64 15774714427196812772)) = some _ from rfl), ha.ev (show ev _ (.const (.int .u64 4767282599215168177)) = some _ from rfl)]) (fun w => by kernel_rfl) hH248 (fun u250 lo252 hi253 w251 hH254 => ?_)
  refine guard_yes rfl rfl (dT hc249) ?_
  refine op_fnV rfl rfl rfl hH254 (c53) (fun w255 hH256 => ?_)
  refine guard_yes rfl rfl (dT hc249) ?_
  refine op_fnV rfl rfl rfl hH256 (c29 (r14.now hH256 (n := 6) rfl) (Heap.rdw T.el39_encW hH256 (n := 0) rfl) (by decide) (by decide)) (fun w257 hH258 => ?_)
  refine ops_y hH258 rfl rfl (yv_pick_t rfl (dT hc249) rfl) ?_
  refine oM hH258 rfl rfl ?_
  refine guard_yes rfl rfl (dT hc249) ?_
  refine ops_y hH258 rfl rfl (yv_loadA (cs := [v22]) T.agg24 rfl rfl (fun _ hw => bx_cells (q22.now hw (n := 6) rfl) (k := 0) rfl)) ?_
  refine guard_yes rfl rfl (dT hc249) ?_
  refine ops_y hH258 rfl rfl (yv_loadA (cs := [v1]) T.agg24 rfl rfl (fun _ hw => bx_cells (q1.now hw (n := 6) rfl) (k := 0) rfl)) ?_
  refine guard_yes rfl rfl (dT hc249) ?_
  refine op_fnV rfl rfl rfl hH258 (c42 (r22.now hH258 (n := 6) rfl) (r1.now hH258 (n := 6) rfl) (by decide) (by decide)) (fun w259 hH260 => ?_)
  refine ops_y hH260 rfl rfl (yv_pick_t rfl (dT hc249) rfl) ?_
  refine oM hH260 rfl rfl ?_
  refine guard_yes rfl rfl (dT rfl) ?_
  refine ops_y hH260 rfl rfl (yv_loadA (cs := [bp218]) T.agg24 rfl rfl (fun _ hw => Heap.cellsw hw (n := 4) rfl (k := 0) rfl)) ?_
  refine guard_yes rfl rfl (dT rfl) ?_
  refine ops_y hH260 rfl rfl (yv_loadA (cs := [v1]) T.agg24 rfl rfl (fun _ hw => bx_cells (q1.now hw (n := 6) rfl) (k := 0) rfl)) ?_
  refine guard_yes rfl rfl (dT rfl) ?_
  refine op_fnV rfl rfl rfl hH260 (c42 ((show Rd encE 5 bp218 B.three _ from hH260.get (n := 5) rfl)) (r1.now hH260 (n := 6) rfl) (by decide) (by decide)) (fun w261 hH262 => ?_)
  refine ops_y hH262 rfl rfl (yv_pick_t rfl (dT rfl) rfl) ?_
  refine oM hH262 rfl rfl ?_
  refine guard_yes rfl rfl (dT rfl) ?_
  refine oM hH262 rfl rfl ?_
  refine guard_yes rfl rfl (dT rfl) ?_
  refine ops_y hH262 rfl rfl (yv_castB (dT rfl) (yv_eqlS rfl rfl)) ?_
  refine ops_y hH262 rfl rfl (yv_pick_t rfl (dT rfl) rfl) ?_
  refine oA hH262 rfl rfl (ops_nil (thn_n (ret ?_)))
  have hH263 := (hH262.sub (sC (sC (sC (sC (sC (sC sR)))))))
  refine fin (Heap.unbase hH263 hbw) (fun w' hf => (res1 rfl (show RV _ _ _ (.tmp 0) _ from rfl))) (fun w' hf => ?_)
  first | rfl | exact congrArg Value.bool (by decide)
end Go.Fip
