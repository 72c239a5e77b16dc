/- Joined texts: V4, V5. -/
import Derived.Test.YtfomadbnfcadnaaGreatDoorMI
import Derived.Test.YtfomadbnfcadnaaGreatDoorMF
set_option linter.unusedVariables false
set_option linter.unusedSimpArgs false
set_option linter.unusedSectionVars false
set_option linter.unnecessarySimpa false
namespace Go.Fip
open Go.Proofs Go.RowKit
theorem Heap.weak {H : List Item} {w : World} {n lo hi : Nat} {φ ψ : World → Prop} (hH : Heap H w) (hn : H[n]? = some ⟨lo, hi, φ⟩) (h : ∀ w, φ w → ψ w) : Heap (H.set n ⟨lo, hi, ψ⟩) w := by
 have hok := hH.okAt hn
 exact hH.swapItem hn ⟨hok.1, hok.2.1, fun w' ha => h w' (hok.2.2 w' ha)⟩
theorem agg_slice {p p' : Value} {k : IntKind} {a b : Int} (h : Value.tuple #[.agg #[p], .int k a] = .tuple #[.agg #[p'], .int k b]) : p = p' := by cases h; rfl
theorem agg_slice1 {p p' : Value} (h : Value.agg #[p] = .agg #[p']) : p = p' := by cases h; rfl
def B.three : List En := [⟨4, 10, 1, 2, 300⟩, ⟨7, 10, 2, 3, 120⟩, ⟨5, 12, 3, 1, 50⟩]
theorem B.list_eq {l m : List En} (h : l.length = m.length) (h2 : ∀ i : Nat, i < l.length → nth l (i : Int) = nth m (i : Int)) : l = m := by
 refine List.ext_getElem h fun i h3 h4 => ?_
 have := h2 i h3
 rwa [nth_nat h3, nth_nat h4] at this
theorem c54 {n d f t a : Int} {w : World}  :
  Fn Tryz.prog 54 [(.int .i64 n), (.int .i64 d), (.int .i64 f), (.int .i64 t), (.int .i64 a)].toArray w (fun u _ => u = .agg #[.int .i64 n, .int .i64 d, .int .i64 f, .int .i64 t, .int .i64 a]) := by
 refine fn_of' (args := [(.int .i64 n), (.int .i64 d), (.int .i64 f), (.int .i64 t), (.int .i64 a)]) Tryz.func54 rfl (ent Tryz.func54 (by kernel_rfl) rfl) rfl rfl (fun hH => ?_)
 refine seq (region ?_)
 refine op_alloc (z := (.agg #[(.int .i64 0), (.int .i64 0), (.int .i64 0), (.int .i64 0), (.int .i64 0)])) (us := [(.int .i64 0), (.int .i64 0), (.int .i64 0), (.int .i64 0), (.int .i64 0)]) (fun _ => by kernel_rfl) rfl rfl hH (fun b1 w2 hH3 => ?_)
 refine ops_nil (thn_n (seq (region (ops_y hH3 rfl rfl (yv_move rfl) (ops_y hH3 rfl rfl (yv_move rfl) (ops_y hH3 rfl rfl (yv_move rfl) (ops_y hH3 rfl rfl (yv_move rfl) (ops_y hH3 rfl rfl (yv_move rfl) ?_))))))))
 refine ops_y hH3 rfl rfl (yv_build (v := (.agg #[(.int .i64 n), (.int .i64 d), (.int .i64 f), (.int .i64 t), (.int .i64 a)])) (us := [(0, (.int .i64 n)), (1, (.int .i64 d)), (2, (.int .i64 f)), (3, (.int .i64 t)), (4, (.int .i64 a))]) (fun a ha => by simp [ha.ev (show ev _ (.tmp 11) = some _ from rfl), ha.ev (show ev _ (.tmp 12) = some _ from rfl), ha.ev (show ev _ (.tmp 13) = some _ from rfl), ha.ev (show ev _ (.tmp 14) = some _ from rfl), ha.ev (show ev _ (.tmp 15) = some _ from rfl)]) (fun w => by kernel_rfl)) ?_
 refine op_store (n := 0) (j := 0) (us := [(.int .i64 n), (.int .i64 d), (.int .i64 f), (.int .i64 t), (.int .i64 a)]) rfl rfl hH3 rfl T.sz38 rfl rfl rfl (by rfl) (fun w4 hH5 => ?_)
 refine ops_nil (thn_n (ret ?_))
 refine fin (hH5.front (n := 1) rfl) (fun w' hf => (res1 rfl (rvA (cs := [(.int .i64 n), (.int .i64 d), (.int .i64 f), (.int .i64 t), (.int .i64 a)]) rfl T.agg38 rfl (bx_cells (Heap.bxw hf (n := 1) rfl) (k := 0) rfl)))) (fun w' hf => ?_)
 rfl
theorem c53 {v : Value} {w : World}  :
  Fn Tryz.prog 53 [v].toArray w (fun u _ => u = v) := by
 refine fn_of' (args := [v]) Tryz.func53 rfl (ent Tryz.func53 (by kernel_rfl) rfl) rfl rfl (fun hH => ?_)
 refine seq (region (ops_y hH rfl rfl (yv_assign rfl) (ops_nil (thn_n (seq (region (ops_y hH rfl rfl (yv_move rfl) (ops_y hH rfl rfl (yv_assign rfl) (ops_nil ?_)))))))))
 refine thn_n (ret ?_)
 refine fin hH (fun w' hf => (res1 rfl (show RV _ _ _ (.tmp 2) _ from rfl))) (fun w' hf => ?_)
 rfl
theorem c52 {w : World}  :
  Fn Tryz.prog 52 [].toArray w (fun u w => ∃ p, u = .agg #[p] ∧ Rd encE 5 p B.three w) := by
 refine fn_of' (args := []) Tryz.func52 rfl (ent Tryz.func52 (by kernel_rfl) rfl) rfl rfl (fun hH => ?_)
 refine seq (region ?_)
 refine op_alloc (z := (.agg #[(.slice none 0 0)])) (us := [(.slice none 0 0)]) (fun _ => by kernel_rfl) rfl rfl hH (fun b1 w2 hH3 => ?_)
 refine ops_nil (thn_n (seq (region ?_)))
 refine op_fnV rfl rfl rfl hH3 (c54) (fun w4 hH5 => ?_)
 refine op_fnV rfl rfl rfl hH5 (c54) (fun w6 hH7 => ?_)
 refine op_fnV rfl rfl rfl hH7 (c54) (fun w8 hH9 => ?_)
 refine op_lit (us := [(0, (.agg #[(.int .i64 4), (.int .i64 10), (.int .i64 1), (.int .i64 2), (.int .i64 300)])), (1, (.agg #[(.int .i64 7), (.int .i64 10), (.int .i64 2), (.int .i64 3), (.int .i64 120)])), (2, (.agg #[(.int .i64 5), (.int .i64 12), (.int .i64 3), (.int .i64 1), (.int .i64 50)]))]) T.el22_encE [(⟨4, 10, 1, 2, 300⟩ : En), (⟨7, 10, 2, 3, 120⟩ : En), (⟨5, 12, 3, 1, 50⟩ : En)] rfl (by decide) rfl (fun a ha => by simp [ha.ev (show ev _ (.tmp 1) = some _ from rfl), ha.ev (show ev _ (.tmp 2) = some _ from rfl), ha.ev (show ev _ (.tmp 3) = some _ from rfl)]) (fun w => by kernel_rfl) hH9 (fun u10 lo12 hi13 w11 hH14 => ?_)
 obtain ⟨_, _, hb15, _⟩ := (Heap.rdw T.el22_encE hH14 (n := 0) rfl).is
 refine ops_y hH14 rfl rfl (yv_build (v := (.agg #[u10])) (us := [(0, u10)]) (fun a ha => by simp [ha.ev (show ev _ (.tmp 4) = some _ from rfl)]) (fun w => by rw [hb15]; kernel_rfl)) ?_
 refine op_store (n := 1) (j := 0) (us := [u10]) rfl rfl hH14 rfl T.sz24 rfl rfl rfl (all_one (SliceIs.one1 (Heap.rdw T.el22_encE hH14 (n := 0) rfl).is) rfl) (fun w16 hH17 => ?_)
 refine ops_nil (thn_n (ret ?_))
 refine fin (hH17.front (n := 2) rfl) (fun w' hf => (res1 rfl (rvA (cs := [u10]) rfl T.agg24 rfl (bx_cells (Heap.bxw hf (n := 2) rfl) (k := 0) rfl)))) (fun w' hf => ?_)
 exact ⟨_, rfl, Heap.rdw T.el22_encE hf (n := 0) rfl⟩
theorem c42 {v u : Value} {l m : List En} {w : World} (h0 : Rd encE 5 v l w) (h1 : Rd encE 5 u m w) (hn : l.length ≤ 1000000) (hn2 : m.length ≤ 1000000)  :
  Fn Tryz.prog 42 [(.agg #[v]), (.agg #[u])].toArray w (fun u _ => u = .bool (decide (l = m))) := by
 refine fn_of' (args := [(.agg #[v]), (.agg #[u])]) Tryz.func42 rfl (ent Tryz.func42 (by kernel_rfl) rfl) rfl rfl (fun hH => ?_)
 refine seq (region ?_)
 refine op_box (us := [v]) rfl rfl rfl hH (fun b1 w2 hH3 => ?_)
 refine op_box (us := [u]) rfl rfl rfl hH3 (fun b4 w5 hH6 => ?_)
 refine ops_y hH6 rfl rfl (yv_assign rfl) (ops_nil (thn_n (seq (seq (region ?_)))))
 refine ops_y hH6 rfl rfl (yv_field T.f24_0 rfl) ?_
 refine ops_y hH6 rfl rfl (yv_load T.one22 rfl (fun _ hw => Heap.cellw hw (n := 1) rfl rfl)) ?_
 refine ops_y hH6 rfl rfl (yv_len T.sl22 rfl (h0.now hH6 (n := 2) rfl).is) ?_
 refine ops_y hH6 rfl rfl (yv_field T.f24_0 rfl) ?_
 refine ops_y hH6 rfl rfl (yv_load T.one22 rfl (fun _ hw => Heap.cellw hw (n := 0) rfl rfl)) ?_
 refine ops_y hH6 rfl rfl (yv_len T.sl22 rfl (h1.now hH6 (n := 2) rfl).is) ?_
 refine ops_y hH6 rfl rfl (yv_neq rfl rfl) ?_
 refine ops_nil (thn_n ?_)
 by_cases hc7 : (l.length : Int) = (m.length : Int)
 ·skip
  have hle : l.length = m.length := by omega
  refine cond_f rfl (not_decide_n hc7) ?_
  refine skip (thn_n (seq (seq (region (ops_y hH6 rfl rfl (yv_assign rfl) (ops_nil (thn_n (block ?_))))))))
  refine loop (S := Nat) (fun k => [(5, (.int .i64 (k : Int))), (2, (.pointer (some ⟨b1, 0, none⟩))), (3, (.pointer (some ⟨b4, 0, none⟩)))]) (fun k w1 => Heap [bx b4 24 [u], bx b1 24 [v], base w] w1 ∧ k ≤ l.length ∧ ∀ i : Nat, i < k → nth l (i : Int) = nth m (i : Int)) (fun k => l.length - k) (0) (Sub.cons rfl (Sub.cons rfl (Sub.cons rfl (Sub.nil _)))) ?_ ?_
  ·exact ⟨hH6, by omega, fun i h => by omega⟩
  ·rintro k w8 ⟨hH9, hk, hall⟩
   show Holds _ _ _ _ _ [(5, (.int .i64 (k : Int))), (2, (.pointer (some ⟨b1, 0, none⟩))), (3, (.pointer (some ⟨b4, 0, none⟩)))] _ _
   refine seq (seq (region (ops_y hH9 rfl rfl (yv_move rfl) ?_)))
   refine ops_y hH9 rfl rfl (yv_field T.f24_0 rfl) ?_
   refine ops_y hH9 rfl rfl (yv_load T.one22 rfl (fun _ hw => Heap.cellw hw (n := 1) rfl rfl)) ?_
   refine ops_y hH9 rfl rfl (yv_len T.sl22 rfl (h0.now hH9 (n := 2) rfl).is) ?_
   refine ops_y hH9 rfl rfl (yv_lss rfl rfl) ?_
   refine ops_nil (thn_n ?_)
   by_cases hc10 : (k : Int) < (l.length : Int)
   ·skip
    refine cond_t rfl (decide_eq_true hc10) ?_
    refine skip (thn_n (seq (block (seq ?_))))
    refine region_draw (fun w' => Heap [bx b4 24 [u], bx b1 24 [v], base w] w') T.mixed (fun w11 hr12 => ?_)
    have hH13 := hH9.redrawn hr12
    refine any_takes [0, 1, 2, 3, 4, 5, 6, 7, 8, 9, 10] (by kernel_rfl) hH13 _ _ _ (by kernel_rfl) ?_
    refine qs_y rfl rfl (yv_field T.f24_0 rfl) ?_
    refine qs_y rfl rfl (yv_load T.one22 rfl (fun _ hw => Heap.cellw hw (n := 1) rfl rfl)) ?_
    refine qs_y rfl rfl (yv_move rfl) ?_
    refine qs_y rfl rfl (yv_index T.sl22 rfl rfl (h0.now hH13 (n := 2) rfl).is (by omega)) ?_
    refine qs_y rfl rfl (yv_loadA (cs := [(.int .i64 ((nth l (k : Int)).n)), (.int .i64 ((nth l (k : Int)).d)), (.int .i64 ((nth l (k : Int)).f)), (.int .i64 ((nth l (k : Int)).t)), (.int .i64 ((nth l (k : Int)).a))]) T.agg38 rfl rfl (fun _ hw => Rd.atA (h0.now hw (n := 2) rfl) (i := (k : Int)) (by omega))) ?_
    refine qs_y rfl rfl (yv_field T.f24_0 rfl) ?_
    refine qs_y rfl rfl (yv_load T.one22 rfl (fun _ hw => Heap.cellw hw (n := 0) rfl rfl)) ?_
    refine qs_y rfl rfl (yv_move rfl) ?_
    refine qs_y rfl rfl (yv_index T.sl22 rfl rfl (h1.now hH13 (n := 2) rfl).is (by omega)) ?_
    refine qs_y rfl rfl (yv_loadA (cs := [(.int .i64 ((nth m (k : Int)).n)), (.int .i64 ((nth m (k : Int)).d)), (.int .i64 ((nth m (k : Int)).f)), (.int .i64 ((nth m (k : Int)).t)), (.int .i64 ((nth m (k : Int)).a))]) T.agg38 rfl rfl (fun _ hw => Rd.atA (h1.now hw (n := 2) rfl) (i := (k : Int)) (by omega))) ?_
    refine qs_y rfl rfl (yv_neA (a := [(nth l (k : Int)).n, (nth l (k : Int)).d, (nth l (k : Int)).f, (nth l (k : Int)).t, (nth l (k : Int)).a]) (b := [(nth m (k : Int)).n, (nth m (k : Int)).d, (nth m (k : Int)).f, (nth m (k : Int)).t, (nth m (k : Int)).a]) T.eqi38 rfl rfl rfl rfl) ?_
    refine qs_nil ?_
    refine any_done (by kernel_rfl) ?_
    refine thn_n ?_
    by_cases hc14 : [(nth l (k : Int)).n, (nth l (k : Int)).d, (nth l (k : Int)).f, (nth l (k : Int)).t, (nth l (k : Int)).a] = [(nth m (k : Int)).n, (nth m (k : Int)).d, (nth m (k : Int)).f, (nth m (k : Int)).t, (nth m (k : Int)).a]
    ·skip
     have hek : nth l (k : Int) = nth m (k : Int) := B.lst_inj.1 ‹_›
     refine cond_f rfl (not_decide_n hc14) ?_
     refine skip (blk_n (thn_n (region (ops_y hH13 rfl rfl (yv_move rfl) ?_))))
     refine ops_y hH13 rfl rfl (yv_add rfl rfl (by omega)) ?_
     refine ops_y hH13 rfl rfl (yv_assign rfl) (ops_nil ?_)
     refine lp_n (k + 1) (Sub.cons rfl (Sub.cons rfl (Sub.cons rfl (Sub.nil _)))) ?_ ?_
     ·exact ⟨hH13, by omega, B.all_snoc hall hek⟩
     ·first | (dsimp only; omega) | (show _ < _; omega)
    ·skip
     have hne : ¬ l = m := fun e => by subst e; exact absurd rfl ‹_›
     refine cond_t rfl (not_decide_t hc14) ?_
     refine seq (region (ops_y hH13 rfl rfl (yv_assign rfl) (ops_nil (thn_n (ret (blk_r (thn_r (lp_r (blk_r ?_)))))))))
     refine thn_r ?_
     have hH15 := (hH13.sub (List.Sublist.cons _ (List.Sublist.cons _ (List.Sublist.refl _))))
     refine fin hH15 (fun w' hf => (res1 rfl (show RV _ _ _ (.tmp 4) _ from rfl))) (fun w' hf => ?_)
     first | exact congrArg Value.bool (decide_eq_false hne).symm | exact congrArg Value.bool (decide_eq_true heq).symm
   ·skip
    have heq : l = m := B.list_eq hle (fun i hi => hall i (by omega))
    refine cond_f rfl (decide_eq_false hc10) ?_
    refine exit (thn_x (lp_x (blk_here (thn_n (seq (region (ops_y hH9 rfl rfl (yv_assign rfl) (ops_nil (thn_n ?_)))))))))
    refine ret ?_
    have hH16 := (hH9.sub (List.Sublist.cons _ (List.Sublist.cons _ (List.Sublist.refl _))))
    refine fin hH16 (fun w' hf => (res1 rfl (show RV _ _ _ (.tmp 4) _ from rfl))) (fun w' hf => ?_)
    first | exact congrArg Value.bool (decide_eq_false hne).symm | exact congrArg Value.bool (decide_eq_true heq).symm
 ·skip
  have hne : ¬ l = m := fun e => by subst e; omega
  refine cond_t rfl (not_decide_t hc7) ?_
  refine seq (region (ops_y hH6 rfl rfl (yv_assign rfl) (ops_nil (thn_n (ret (thn_r ?_))))))
  have hH17 := (hH6.sub (List.Sublist.cons _ (List.Sublist.cons _ (List.Sublist.refl _))))
  refine fin hH17 (fun w' hf => (res1 rfl (show RV _ _ _ (.tmp 4) _ from rfl))) (fun w' hf => ?_)
  first | exact congrArg Value.bool (decide_eq_false hne).symm | exact congrArg Value.bool (decide_eq_true heq).symm
end Go.Fip
namespace Go.Fip
open Go.Proofs Go.RowKit
namespace K
theorem n1 : (((6719674455804711816 : UInt64).toNat : Nat) : Int) = 6719674455804711816 := by decide +kernel
theorem n2 : (((12638187200555641996 : UInt64).toNat : Nat) : Int) = 12638187200555641996 := by decide +kernel
theorem b1 : B.balR B.three 1 12 = ((-250), 0) := by decide +kernel
theorem b2 : B.balR B.three 10 12 = (0, 2) := by decide +kernel
theorem s1 : B.sumR [97] = (12638187200555641996, 0) := by decide +kernel
theorem r1 : B.rootR B.three = (6719674455804711816, 0) := by decide +kernel
theorem p1 : B.pathR B.three 0 = ([15774714427196812772, 4767282599215168177], 0) := by decide +kernel
theorem p2 : B.pathR B.three 3 = ([], 3) := by decide +kernel
theorem g1 : B.gwR B.three 1 = ([15774714427196812772, 4767282599215168177], 0) := by decide +kernel
theorem g2 : B.gwR B.three 0 = ([], 2) := by decide +kernel
theorem q1 : B.cp (⟨7, 10, 2, 3, 120⟩ : En) 1 3 ([1731110933544241005, 4767282599215168177] : List UInt64) 6719674455804711816 = 0 := by decide +kernel
theorem q2 : B.cp (⟨7, 10, 2, 3, 120⟩ : En) 0 3 ([1731110933544241005, 4767282599215168177] : List UInt64) 6719674455804711816 = 25 := by decide +kernel
theorem q3 : B.cg 2 3 ([4767282599215168177] : List UInt64) 15194925396971619381 6719674455804711816 = 0 := by decide +kernel
theorem q4 : B.cg 1 3 ([4767282599215168177] : List UInt64) 15194925396971619381 6719674455804711816 = 25 := by decide +kernel
theorem j1 : B.joinR (B.three.drop 1) (B.three.take 2) = (B.three, 0) := by decide +kernel
theorem f1 : B.fileR B.three = ([52, 32, 49, 48, 32, 49, 32, 50, 32, 51, 48, 48, 10, 55, 32, 49, 48, 32, 50, 32, 51, 32, 49, 50, 48, 10, 53, 32, 49, 50, 32, 51, 32, 49, 32, 53, 48, 10, 115, 117, 109, 32, 53, 100, 52, 49, 49, 52, 53, 48, 98, 48, 56, 49, 57, 51, 56, 56, 10], 0) := by decide +kernel
theorem l1 : B.loadR [52, 32, 49, 48, 32, 49, 32, 50, 32, 51, 48, 48, 10, 55, 32, 49, 48, 32, 50, 32, 51, 32, 49, 50, 48, 10, 53, 32, 49, 50, 32, 51, 32, 49, 32, 53, 48, 10, 115, 117, 109, 32, 53, 100, 52, 49, 49, 52, 53, 48, 98, 48, 56, 49, 57, 51, 56, 56, 10] = (B.three, 0) := by decide +kernel
theorem sl : ([115, 117, 109, 32] ++ B.hex 6719674455804711816) ++ [10] = ([115, 117, 109, 32, 53, 100, 52, 49, 49, 52, 53, 48, 98, 48, 56, 49, 57, 51, 56, 56, 10] : List UInt8) := by decide +kernel
theorem l2 : B.loadR [115, 117, 109, 32, 53, 100, 52, 49, 49, 52, 53, 48, 98, 48, 56, 49, 57, 51, 56, 56, 10] = ([], 14) := by decide +kernel
end K
theorem c18 {w : World} (hG : Gl w)  :
  Fn Tryz.prog 18 [].toArray w (fun u _ => u = .bool true) := by
 refine fn_of' (args := []) Tryz.func18 rfl (ent Tryz.func18 (by kernel_rfl) rfl) rfl rfl (fun hH => ?_)
 have ht3 : B.three.length = 3 := rfl
 refine seq (region (ops_y hH rfl rfl (yv_assign rfl) (ops_nil (thn_n (seq (region ?_))))))
 refine op_fn rfl rfl rfl hH (c52) (fun u3 w1 lo4 hi5 hH2 hv6 => ?_)
 obtain ⟨bp7, hu, -⟩ := hv6
 subst hu
 have hH8 := Heap.weak (ψ := Rd encE 5 bp7 B.three) hH2 (n := 0) rfl (fun w' h => (by obtain ⟨p', e, h⟩ := h; rw [agg_slice1 e]; exact h))
 refine op_alloc (z := (.agg #[(.slice none 0 0)])) (us := [(.slice none 0 0)]) (fun _ => by kernel_rfl) rfl rfl hH8 (fun b9 w10 hH11 => ?_)
 refine op_store (n := 0) (j := 0) (us := [bp7]) rfl rfl hH11 rfl T.sz24 rfl rfl rfl (all_one (SliceIs.one1 ((show Rd encE 5 bp7 B.three _ from hH11.get (n := 1) rfl)).is) rfl) (fun w12 hH13 => ?_)
 refine ops_nil (thn_n (seq (region ?_)))
 refine ops_y hH13 rfl rfl (yv_loadA (cs := [bp7]) T.agg24 rfl rfl (fun _ hw => Heap.cellsw hw (n := 0) rfl (k := 0) rfl)) ?_
 refine op_fnV rfl rfl rfl hH13 ((by have h := c19 ((show Rd encE 5 bp7 B.three _ from hH13.get (n := 1) rfl)) (by decide) (hG.now hH13 (n := 2) rfl) (a := 1) (d := 12) (w := w12); simp only [K.b1] at h; exact h)) (fun w14 hH15 => ?_)
 refine ops_y hH15 rfl rfl (yv_move rfl) (ops_y hH15 rfl rfl (yv_extract rfl rfl) (ops_y hH15 rfl rfl (yv_extract rfl rfl) (ops_y hH15 rfl rfl (yv_assign rfl) (ops_y hH15 rfl rfl (yv_assign rfl) (ops_nil (thn_n (seq (region ?_))))))))
 refine ops_y hH15 rfl rfl (yv_loadA (cs := [bp7]) T.agg24 rfl rfl (fun _ hw => Heap.cellsw hw (n := 0) rfl (k := 0) rfl)) ?_
 refine op_fnV rfl rfl rfl hH15 ((by have h := c19 ((show Rd encE 5 bp7 B.three _ from hH15.get (n := 1) rfl)) (by decide) (hG.now hH15 (n := 2) rfl) (a := 10) (d := 12) (w := w14); simp only [K.b2] at h; exact h)) (fun w16 hH17 => ?_)
 refine ops_y hH17 rfl rfl (yv_move rfl) (ops_y hH17 rfl rfl (yv_extract rfl rfl) (ops_y hH17 rfl rfl (yv_extract rfl rfl) (ops_y hH17 rfl rfl (yv_assign rfl) (ops_y hH17 rfl rfl (yv_assign rfl) (ops_nil (thn_n (seq (region ?_))))))))
 refine op_fnV rfl rfl rfl hH17 ((by have h := c23 (l := [97]) (w := w16); simp only [K.s1, K.n2] at h; exact h)) (fun w18 hH19 => ?_)
 refine ops_y hH19 rfl rfl (yv_move rfl) (ops_y hH19 rfl rfl (yv_extract rfl rfl) (ops_y hH19 rfl rfl (yv_extract rfl rfl) (ops_y hH19 rfl rfl (yv_assign rfl) (ops_y hH19 rfl rfl (yv_assign rfl) (ops_nil (thn_n (seq (region ?_))))))))
 refine ops_y hH19 rfl rfl (yv_loadA (cs := [bp7]) T.agg24 rfl rfl (fun _ hw => Heap.cellsw hw (n := 0) rfl (k := 0) rfl)) ?_
 refine op_fnV rfl rfl rfl hH19 ((by have h := c25 ((show Rd encE 5 bp7 B.three _ from hH19.get (n := 1) rfl)) (by decide) (hG.now hH19 (n := 2) rfl)  (w := w18); simp only [K.r1, K.n1] at h; exact h)) (fun w20 hH21 => ?_)
 refine ops_y hH21 rfl rfl (yv_move rfl) (ops_y hH21 rfl rfl (yv_extract rfl rfl) (ops_y hH21 rfl rfl (yv_extract rfl rfl) (ops_y hH21 rfl rfl (yv_assign rfl) (ops_y hH21 rfl rfl (yv_assign rfl) (ops_nil (thn_n (seq (region ?_))))))))
 refine ops_y hH21 rfl rfl (yv_loadA (cs := [bp7]) T.agg24 rfl rfl (fun _ hw => Heap.cellsw hw (n := 0) rfl (k := 0) rfl)) ?_
 refine op_fn rfl rfl rfl hH21 ((by have h := c27 ((show Rd encE 5 bp7 B.three _ from hH21.get (n := 1) rfl)) (by decide) (hG.now hH21 (n := 2) rfl) (i := 0) (w := w20); simp only [K.p1] at h; exact h)) (fun u24 w22 lo25 hi26 hH23 hv27 => ?_)
 obtain ⟨p29, hu, -⟩ := hv27
 subst hu
 have hH28 := Heap.tup2 hH23 (n := 0) rfl
 refine ops_y hH28 rfl rfl (yv_move rfl) (ops_y hH28 rfl rfl (yv_extract rfl rfl) (ops_y hH28 rfl rfl (yv_extract rfl rfl) (ops_y hH28 rfl rfl (yv_assign rfl) (ops_y hH28 rfl rfl (yv_assign rfl) (ops_nil (thn_n (seq (region ?_))))))))
 refine ops_y hH28 rfl rfl (yv_loadA (cs := [bp7]) T.agg24 rfl rfl (fun _ hw => Heap.cellsw hw (n := 1) rfl (k := 0) rfl)) ?_
 refine op_fn rfl rfl rfl hH28 ((by have h := c27 ((show Rd encE 5 bp7 B.three _ from hH28.get (n := 2) rfl)) (by decide) (hG.now hH28 (n := 3) rfl) (i := 3) (w := w22); simp only [K.p2] at h; exact h)) (fun u32 w30 lo33 hi34 hH31 hv35 => ?_)
 obtain ⟨p37, hu, -⟩ := hv35
 subst hu
 have hH36 := Heap.tup2 hH31 (n := 0) rfl
 refine ops_y hH36 rfl rfl (yv_move rfl) (ops_y hH36 rfl rfl (yv_extract rfl rfl) (ops_y hH36 rfl rfl (yv_extract rfl rfl) (ops_y hH36 rfl rfl (yv_assign rfl) (ops_y hH36 rfl rfl (yv_assign rfl) (ops_nil (thn_n (seq (region ?_))))))))
 refine ops_y hH36 rfl rfl (yv_loadA (cs := [bp7]) T.agg24 rfl rfl (fun _ hw => Heap.cellsw hw (n := 2) rfl (k := 0) rfl)) ?_
 refine op_fn rfl rfl rfl hH36 ((by have h := c32 ((show Rd encE 5 bp7 B.three _ from hH36.get (n := 3) rfl)) (by decide) (hG.now hH36 (n := 4) rfl) (m := 1) (w := w30); simp only [K.g1] at h; exact h)) (fun u40 w38 lo41 hi42 hH39 hv43 => ?_)
 obtain ⟨p45, hu, -⟩ := hv43
 subst hu
 have hH44 := Heap.tup2 hH39 (n := 0) rfl
 refine ops_y hH44 rfl rfl (yv_move rfl) (ops_y hH44 rfl rfl (yv_extract rfl rfl) (ops_y hH44 rfl rfl (yv_extract rfl rfl) (ops_y hH44 rfl rfl (yv_assign rfl) (ops_y hH44 rfl rfl (yv_assign rfl) (ops_nil (thn_n (seq (region ?_))))))))
 refine ops_y hH44 rfl rfl (yv_loadA (cs := [bp7]) T.agg24 rfl rfl (fun _ hw => Heap.cellsw hw (n := 3) rfl (k := 0) rfl)) ?_
 refine op_fn rfl rfl rfl hH44 ((by have h := c32 ((show Rd encE 5 bp7 B.three _ from hH44.get (n := 4) rfl)) (by decide) (hG.now hH44 (n := 5) rfl) (m := 0) (w := w38); simp only [K.g2] at h; exact h)) (fun u48 w46 lo49 hi50 hH47 hv51 => ?_)
 obtain ⟨p53, hu, -⟩ := hv51
 subst hu
 have hH52 := Heap.tup2 hH47 (n := 0) rfl
 refine ops_y hH52 rfl rfl (yv_move rfl) (ops_y hH52 rfl rfl (yv_extract rfl rfl) (ops_y hH52 rfl rfl (yv_extract rfl rfl) (ops_y hH52 rfl rfl (yv_assign rfl) (ops_y hH52 rfl rfl (yv_assign rfl) (ops_nil (thn_n (seq (region ?_))))))))
 refine op_fnV rfl rfl rfl hH52 (c54) (fun w54 hH55 => ?_)
 refine op_lit (us := [(0, (.int .u64 1731110933544241005)), (1, (.int .u64 4767282599215168177))]) T.el39_encW [(1731110933544241005 : UInt64), (4767282599215168177 : UInt64)] rfl (by decide) rfl (fun a ha => by simp [ha.ev (show ev _ (.const (.int .u64 1731110933544241005)) = some _ from rfl), ha.ev (show ev _ (.const (.int .u64 4767282599215168177)) = some _ from rfl)]) (fun w => by kernel_rfl) hH55 (fun u56 lo58 hi59 w57 hH60 => ?_)
 refine op_fnV rfl rfl rfl hH60 (c53) (fun w61 hH62 => ?_)
 refine op_fnV rfl rfl rfl hH62 ((by have h := c30 (e := (⟨7, 10, 2, 3, 120⟩ : En)) (i := 1) (n := 3) (r := 6719674455804711816) (hG.now hH62 (n := 7) rfl) (Heap.rdw T.el39_encW hH62 (n := 0) rfl) (by decide) (w := w61); simp only [K.q1, K.n1] at h; exact h)) (fun w63 hH64 => ?_)
 refine ops_y hH64 rfl rfl (yv_assign rfl) (ops_nil (thn_n (seq (region ?_))))
 refine op_fnV rfl rfl rfl hH64 (c54) (fun w65 hH66 => ?_)
 refine op_lit (us := [(0, (.int .u64 1731110933544241005)), (1, (.int .u64 4767282599215168177))]) T.el39_encW [(1731110933544241005 : UInt64), (4767282599215168177 : UInt64)] rfl (by decide) rfl (fun a ha => by simp [ha.ev (show ev _ (.const (.int .u64 1731110933544241005)) = some _ from rfl), ha.ev (show ev _ (.const (.int .u64 4767282599215168177)) = some _ from rfl)]) (fun w => by kernel_rfl) hH66 (fun u67 lo69 hi70 w68 hH71 => ?_)
 refine op_fnV rfl rfl rfl hH71 (c53) (fun w72 hH73 => ?_)
 refine op_fnV rfl rfl rfl hH73 ((by have h := c30 (e := (⟨7, 10, 2, 3, 120⟩ : En)) (i := 0) (n := 3) (r := 6719674455804711816) (hG.now hH73 (n := 8) rfl) (Heap.rdw T.el39_encW hH73 (n := 0) rfl) (by decide) (w := w72); simp only [K.q2, K.n1] at h; exact h)) (fun w74 hH75 => ?_)
 refine ops_y hH75 rfl rfl (yv_assign rfl) (ops_nil (thn_n (seq (region ?_))))
 refine op_lit (us := [(0, (.int .u64 4767282599215168177))]) T.el39_encW [(4767282599215168177 : UInt64)] rfl (by decide) rfl (fun a ha => by simp [ha.ev (show ev _ (.const (.int .u64 4767282599215168177)) = some _ from rfl)]) (fun w => by kernel_rfl) hH75 (fun u76 lo78 hi79 w77 hH80 => ?_)
 refine op_fnV rfl rfl rfl hH80 (c53) (fun w81 hH82 => ?_)
 refine op_fnV rfl rfl rfl hH82 ((by have h := c34 (m := 2) (n := 3) (o := 15194925396971619381) (r := 6719674455804711816) (hG.now hH82 (n := 9) rfl) (Heap.rdw T.el39_encW hH82 (n := 0) rfl) (by decide) (w := w81); simp only [K.q3] at h; exact h)) (fun w83 hH84 => ?_)
 refine op_lit (us := [(0, (.int .u64 4767282599215168177))]) T.el39_encW [(4767282599215168177 : UInt64)] rfl (by decide) rfl (fun a ha => by simp [ha.ev (show ev _ (.const (.int .u64 4767282599215168177)) = some _ from rfl)]) (fun w => by kernel_rfl) hH84 (fun u85 lo87 hi88 w86 hH89 => ?_)
 refine op_fnV rfl rfl rfl hH89 (c53) (fun w90 hH91 => ?_)
 refine op_fnV rfl rfl rfl hH91 ((by have h := c34 (m := 1) (n := 3) (o := 15194925396971619381) (r := 6719674455804711816) (hG.now hH91 (n := 10) rfl) (Heap.rdw T.el39_encW hH91 (n := 0) rfl) (by decide) (w := w90); simp only [K.q4] at h; exact h)) (fun w92 hH93 => ?_)
 refine ops_y hH93 rfl rfl (yv_assign rfl) (ops_y hH93 rfl rfl (yv_assign rfl) (ops_nil (thn_n (seq ?_))))
 refine region_draw (fun w' => True) T.mixed (fun w94 hr95 => ?_)
 have hH96 := hH93.redrawn hr95
 refine any_takes [0, 4] (by kernel_rfl) trivial _ _ _ (by kernel_rfl) ?_
 refine qs_y rfl rfl (yv_field T.f24_0 rfl) ?_
 refine qs_y rfl rfl (yv_field T.f24_0 rfl) ?_
 refine qs_nil ?_
 refine any_all [1, 5, 12] (by kernel_rfl) rfl ?_
 refine ⟨⟨_, rfl, ?_⟩, ⟨_, rfl, ?_⟩, ⟨_, rfl, ?_⟩, trivial⟩
 ·skip
  refine ops_y hH96 rfl rfl (yv_load T.one22 rfl (fun _ hw => Heap.cellw hw (n := 8) rfl rfl)) ?_
  refine ops_nil ?_
  refine ⟨trivial, ?_⟩
  obtain ⟨_, _, hb97, _⟩ := (Rd.from ((show Rd encE 5 bp7 B.three _ from hH96.get (n := 9) rfl)) (lo := 1) (by omega)).is
  refine any_takes [2, 3] (by kernel_rfl) trivial _ _ _ (by kernel_rfl) ?_
  refine qs_y rfl rfl (yv_cut_lo T.sl22 rfl rfl ((show Rd encE 5 bp7 B.three _ from hH96.get (n := 9) rfl)).is (by omega)) ?_
  refine qs_y rfl rfl (yv_build (v := (.agg #[(cutv bp7 5 1 B.three.length)])) (us := [(0, (cutv bp7 5 1 B.three.length))]) (fun a ha => by simp [ha.ev (show ev _ (.tmp 87) = some _ from rfl)]) (fun w => by rw [hb97]; kernel_rfl)) ?_
  refine qs_nil ?_
  refine any_all [5, 12] (by kernel_rfl) rfl ?_
  refine ⟨⟨_, rfl, ?_⟩, ⟨_, rfl, ?_⟩, trivial⟩
  ·skip
   refine ops_y hH96 rfl rfl (yv_load T.one22 rfl (fun _ hw => Heap.cellw hw (n := 8) rfl rfl)) ?_
   refine ops_nil ?_
   refine ⟨trivial, ?_⟩
   obtain ⟨_, _, hb98, _⟩ := (Rd.upto ((show Rd encE 5 bp7 B.three _ from hH96.get (n := 9) rfl)) (hi := 2) (by omega)).is
   refine any_takes [6, 7] (by kernel_rfl) trivial _ _ _ (by kernel_rfl) ?_
   refine qs_y rfl rfl (yv_cut_hi T.sl22 rfl rfl ((show Rd encE 5 bp7 B.three _ from hH96.get (n := 9) rfl)).is (by omega)) ?_
   refine qs_y rfl rfl (yv_build (v := (.agg #[(cutv bp7 5 0 2)])) (us := [(0, (cutv bp7 5 0 2))]) (fun a ha => by simp [ha.ev (show ev _ (.tmp 91) = some _ from rfl)]) (fun w => by rw [hb98]; kernel_rfl)) ?_
   refine qs_nil ?_
   refine any_all [8, 12] (by kernel_rfl) rfl ?_
   refine ⟨⟨_, rfl, ?_⟩, ⟨_, rfl, ?_⟩, trivial⟩
   ·skip
    refine op_fn rfl rfl rfl hH96 ((by have h := c36 (Rd.from ((show Rd encE 5 bp7 B.three _ from hH96.get (n := 9) rfl)) (lo := 1) (by omega)) (Rd.upto ((show Rd encE 5 bp7 B.three _ from hH96.get (n := 9) rfl)) (hi := 2) (by omega)) (by decide) (by decide) (w := w94); simp only [K.j1] at h; exact h)) (fun u101 w99 lo102 hi103 hH100 hv104 => ?_)
    obtain ⟨bp105, hu, -⟩ := hv104
    subst hu
    have hH106 := Heap.weak (ψ := Rd encE 5 bp105 B.three) hH100 (n := 0) rfl (fun w' h => (by obtain ⟨p', e, h⟩ := h; rw [agg_slice e]; exact h))
    refine ops_nil ?_
    refine ⟨trivial, ?_⟩
    refine any_takes [9, 10, 11] (by kernel_rfl) trivial _ _ _ (by kernel_rfl) ?_
    refine qs_y rfl rfl (yv_move rfl) ?_
    refine qs_y rfl rfl (yv_extract rfl rfl) ?_
    refine qs_y rfl rfl (yv_extract rfl rfl) ?_
    refine qs_nil ?_
    refine any_all [12] (by kernel_rfl) rfl ?_
    refine ⟨⟨_, rfl, ?_⟩, trivial⟩
    ·skip
     refine op_alloc (z := (.agg #[(.slice none 0 0)])) (us := [(.slice none 0 0)]) (fun _ => by kernel_rfl) rfl rfl hH106 (fun b107 w108 hH109 => ?_)
     refine ops_nil ?_
     refine ⟨trivial, ?_⟩
     refine any_all [13] (by kernel_rfl) rfl ?_
     refine ⟨⟨_, rfl, ?_⟩, trivial⟩
     ·skip
      refine op_store (n := 0) (j := 0) (us := [bp105]) rfl rfl hH109 rfl T.sz24 rfl rfl rfl (all_one (SliceIs.one1 ((show Rd encE 5 bp105 B.three _ from hH109.get (n := 1) rfl)).is) rfl) (fun w110 hH111 => ?_)
      refine ops_nil ?_
      refine ⟨trivial, ?_⟩
      refine any_takes [14] (by kernel_rfl) trivial _ _ _ (by kernel_rfl) ?_
      refine qs_y rfl rfl (yv_assign rfl) (qs_nil ?_)
      refine any_done (by kernel_rfl) ?_
      refine thn_n (seq (region ?_))
      refine ops_y hH111 rfl rfl (yv_loadA (cs := [bp7]) T.agg24 rfl rfl (fun _ hw => Heap.cellsw hw (n := 10) rfl (k := 0) rfl)) ?_
      refine op_fnV rfl rfl rfl hH111 ((by have h := c38 ((show Rd encE 5 bp7 B.three _ from hH111.get (n := 11) rfl)) (by decide) (hG.now hH111 (n := 12) rfl)  (w := w110); simp only [K.f1] at h; exact h)) (fun w112 hH113 => ?_)
      refine ops_y hH113 rfl rfl (yv_move rfl) (ops_y hH113 rfl rfl (yv_extract rfl rfl) (ops_y hH113 rfl rfl (yv_extract rfl rfl) (ops_y hH113 rfl rfl (yv_assign rfl) (ops_y hH113 rfl rfl (yv_assign rfl) (ops_nil (thn_n (seq (region (ops_y hH113 rfl rfl (yv_move rfl) ?_)))))))))
      refine op_fn rfl rfl rfl hH113 ((by have h := c40 (l := [52, 32, 49, 48, 32, 49, 32, 50, 32, 51, 48, 48, 10, 55, 32, 49, 48, 32, 50, 32, 51, 32, 49, 50, 48, 10, 53, 32, 49, 50, 32, 51, 32, 49, 32, 53, 48, 10, 115, 117, 109, 32, 53, 100, 52, 49, 49, 52, 53, 48, 98, 48, 56, 49, 57, 51, 56, 56, 10]) (hG.now hH113 (n := 12) rfl) (by decide) (w := w112); simp only [K.l1] at h; exact h)) (fun u116 w114 lo117 hi118 hH115 hv119 => ?_)
      obtain ⟨bp120, hu, -⟩ := hv119
      subst hu
      have hH121 := Heap.weak (ψ := Rd encE 5 bp120 B.three) hH115 (n := 0) rfl (fun w' h => (by obtain ⟨p', e, h⟩ := h; rw [agg_slice e]; exact h))
      refine ops_y hH121 rfl rfl (yv_move rfl) (ops_y hH121 rfl rfl (yv_extract rfl rfl) (ops_y hH121 rfl rfl (yv_extract rfl rfl) ?_))
      refine op_alloc (z := (.agg #[(.slice none 0 0)])) (us := [(.slice none 0 0)]) (fun _ => by kernel_rfl) rfl rfl hH121 (fun b122 w123 hH124 => ?_)
      refine op_store (n := 0) (j := 0) (us := [bp120]) rfl rfl hH124 rfl T.sz24 rfl rfl rfl (all_one (SliceIs.one1 ((show Rd encE 5 bp120 B.three _ from hH124.get (n := 1) rfl)).is) rfl) (fun w125 hH126 => ?_)
      refine ops_y hH126 rfl rfl (yv_assign rfl) (ops_nil (thn_n (seq (region ?_))))
      refine op_fnV rfl rfl rfl hH126 ((by have h := c55 (x := 6719674455804711816) (w := w125); simp only [K.n1] at h; exact h)) (fun w127 hH128 => ?_)
      refine ops_y hH128 rfl rfl (yv_cat rfl rfl (by simp only [List.length_cons, List.length_nil, B.hex_length]; omega)) ?_
      refine ops_y hH128 rfl rfl (yv_castS K.sl (yv_cat rfl rfl (by rw [List.length_append]; simp only [List.length_cons, List.length_nil, B.hex_length]; omega))) ?_
      refine op_fn rfl rfl rfl hH128 ((by have h := c40 (l := [115, 117, 109, 32, 53, 100, 52, 49, 49, 52, 53, 48, 98, 48, 56, 49, 57, 51, 56, 56, 10]) (hG.now hH128 (n := 14) rfl) (by decide) (w := w127); simp only [K.l2] at h; exact h)) (fun u131 w129 lo132 hi133 hH130 hv134 => ?_)
      obtain ⟨bp135, hu, -⟩ := hv134
      subst hu
      have hH136 := Heap.weak (ψ := Rd encE 5 bp135 ([] : List En)) hH130 (n := 0) rfl (fun w' h => (by obtain ⟨p', e, h⟩ := h; rw [agg_slice e]; exact h))
      refine ops_y hH136 rfl rfl (yv_move rfl) (ops_y hH136 rfl rfl (yv_extract rfl rfl) (ops_y hH136 rfl rfl (yv_extract rfl rfl) ?_))
      refine op_alloc (z := (.agg #[(.slice none 0 0)])) (us := [(.slice none 0 0)]) (fun _ => by kernel_rfl) rfl rfl hH136 (fun b137 w138 hH139 => ?_)
      refine op_store (n := 0) (j := 0) (us := [bp135]) rfl rfl hH139 rfl T.sz24 rfl rfl rfl (all_one (SliceIs.one1 ((show Rd encE 5 bp135 ([] : List En) _ from hH139.get (n := 1) rfl)).is) rfl) (fun w140 hH141 => ?_)
      refine ops_y hH141 rfl rfl (yv_assign rfl) (ops_nil (thn_n (seq (seq (region (ops_y hH141 rfl rfl (yv_move rfl) ?_))))))
      refine ops_y hH141 rfl rfl (yv_castB rfl (yv_neq rfl rfl)) ?_
      refine ops_y hH141 rfl rfl (yv_move rfl) (guard_yes rfl rfl rfl (ops_y hH141 rfl rfl (yv_move rfl) (guard_yes rfl rfl rfl ?_)))
      refine ops_y hH141 rfl rfl (yv_castB rfl (yv_neq rfl rfl)) ?_
      refine ops_y hH141 rfl rfl (yv_pick_f rfl rfl rfl) ?_
      refine ops_y hH141 rfl rfl (yv_move rfl) (guard_yes rfl rfl rfl (ops_y hH141 rfl rfl (yv_move rfl) (guard_yes rfl rfl rfl ?_)))
      refine ops_y hH141 rfl rfl (yv_castB rfl (yv_neq rfl rfl)) ?_
      refine ops_y hH141 rfl rfl (yv_pick_f rfl rfl rfl) ?_
      refine ops_y hH141 rfl rfl (yv_move rfl) (guard_yes rfl rfl rfl (ops_y hH141 rfl rfl (yv_move rfl) (guard_yes rfl rfl rfl ?_)))
      refine ops_y hH141 rfl rfl (yv_castB rfl (yv_neq rfl rfl)) ?_
      refine ops_y hH141 rfl rfl (yv_pick_f rfl rfl rfl) ?_
      refine ops_y hH141 rfl rfl (yv_move rfl) (guard_yes rfl rfl rfl (ops_y hH141 rfl rfl (yv_move rfl) (guard_yes rfl rfl rfl ?_)))
      refine ops_y hH141 rfl rfl (yv_castB rfl (yv_neq rfl rfl)) ?_
      refine ops_y hH141 rfl rfl (yv_pick_f rfl rfl rfl) ?_
      refine ops_y hH141 rfl rfl (yv_move rfl) (guard_yes rfl rfl rfl (ops_y hH141 rfl rfl (yv_move rfl) (guard_yes rfl rfl rfl ?_)))
      refine ops_y hH141 rfl rfl (yv_castB rfl (yv_neq rfl rfl)) ?_
      refine ops_y hH141 rfl rfl (yv_pick_f rfl rfl rfl) ?_
      refine ops_y hH141 rfl rfl (yv_move rfl) (guard_yes rfl rfl rfl (ops_y hH141 rfl rfl (yv_move rfl) (guard_yes rfl rfl rfl ?_)))
      refine ops_y hH141 rfl rfl (yv_castB rfl (yv_neq rfl rfl)) ?_
      refine ops_y hH141 rfl rfl (yv_pick_f rfl rfl rfl) ?_
      refine ops_y hH141 rfl rfl (yv_move rfl) (guard_yes rfl rfl rfl (ops_y hH141 rfl rfl (yv_move rfl) (guard_yes rfl rfl rfl ?_)))
      refine ops_y hH141 rfl rfl (yv_castB rfl (yv_neq rfl rfl)) ?_
      refine ops_y hH141 rfl rfl (yv_pick_f rfl rfl rfl) ?_
      refine ops_y hH141 rfl rfl (yv_move rfl) (guard_yes rfl rfl rfl (ops_y hH141 rfl rfl (yv_move rfl) (guard_yes rfl rfl rfl ?_)))
      refine ops_y hH141 rfl rfl (yv_castB rfl (yv_neq rfl rfl)) ?_
      refine ops_y hH141 rfl rfl (yv_pick_f rfl rfl rfl) ?_
      refine ops_y hH141 rfl rfl (yv_move rfl) (guard_yes rfl rfl rfl (ops_y hH141 rfl rfl (yv_move rfl) (guard_yes rfl rfl rfl ?_)))
      refine ops_y hH141 rfl rfl (yv_castB rfl (yv_neq rfl rfl)) ?_
      refine ops_y hH141 rfl rfl (yv_pick_f rfl rfl rfl) ?_
      refine ops_y hH141 rfl rfl (yv_move rfl) (guard_yes rfl rfl rfl (ops_y hH141 rfl rfl (yv_move rfl) (guard_yes rfl rfl rfl ?_)))
      refine ops_y hH141 rfl rfl (yv_castB rfl (yv_neq rfl rfl)) ?_
      refine ops_y hH141 rfl rfl (yv_pick_f rfl rfl rfl) ?_
      refine ops_y hH141 rfl rfl (yv_move rfl) (guard_yes rfl rfl rfl (ops_y hH141 rfl rfl (yv_move rfl) (guard_yes rfl rfl rfl ?_)))
      refine ops_y hH141 rfl rfl (yv_castB rfl (yv_neq rfl rfl)) ?_
      refine ops_y hH141 rfl rfl (yv_pick_f rfl rfl rfl) ?_
      refine ops_y hH141 rfl rfl (yv_move rfl) (guard_yes rfl rfl rfl (ops_y hH141 rfl rfl (yv_move rfl) (guard_yes rfl rfl rfl ?_)))
      refine ops_y hH141 rfl rfl (yv_castB rfl (yv_neq rfl rfl)) ?_
      refine ops_y hH141 rfl rfl (yv_pick_f rfl rfl rfl) ?_
      refine ops_y hH141 rfl rfl (yv_move rfl) (guard_yes rfl rfl rfl (ops_y hH141 rfl rfl (yv_move rfl) (guard_yes rfl rfl rfl ?_)))
      refine ops_y hH141 rfl rfl (yv_castB rfl (yv_neq rfl rfl)) ?_
      refine ops_y hH141 rfl rfl (yv_pick_f rfl rfl rfl) ?_
      refine ops_y hH141 rfl rfl (yv_move rfl) (guard_yes rfl rfl rfl (ops_y hH141 rfl rfl (yv_move rfl) (guard_yes rfl rfl rfl ?_)))
      refine ops_y hH141 rfl rfl (yv_castB rfl (yv_neq rfl rfl)) ?_
      refine ops_y hH141 rfl rfl (yv_pick_f rfl rfl rfl) ?_
      refine ops_y hH141 rfl rfl (yv_move rfl) (guard_yes rfl rfl rfl (ops_y hH141 rfl rfl (yv_move rfl) (guard_yes rfl rfl rfl ?_)))
      refine ops_y hH141 rfl rfl (yv_castB rfl (yv_neq rfl rfl)) ?_
      refine ops_y hH141 rfl rfl (yv_pick_f rfl rfl rfl) ?_
      refine ops_nil (thn_n ?_)
      refine cond_f rfl rfl ?_
      refine skip (thn_n (seq (region (ops_y hH141 rfl rfl (yv_move rfl) ?_))))
      refine ops_y hH141 rfl rfl (yv_castB rfl (yv_eql rfl rfl)) ?_
      refine ops_y hH141 rfl rfl (yv_move rfl) (guard_yes rfl rfl rfl (ops_y hH141 rfl rfl (yv_move rfl) (guard_yes rfl rfl rfl ?_)))
      refine ops_y hH141 rfl rfl (yv_castB rfl (yv_eql rfl rfl)) ?_
      refine ops_y hH141 rfl rfl (yv_pick_t rfl rfl rfl) ?_
      refine ops_y hH141 rfl rfl (yv_move rfl) (guard_yes rfl rfl rfl (ops_y hH141 rfl rfl (yv_move rfl) (guard_yes rfl rfl rfl ?_)))
      refine ops_y hH141 rfl rfl (yv_castB rfl (yv_eql rfl rfl)) ?_
      refine ops_y hH141 rfl rfl (yv_pick_t rfl rfl rfl) ?_
      refine ops_y hH141 rfl rfl (yv_move rfl) (guard_yes rfl rfl rfl (ops_y hH141 rfl rfl (yv_move rfl) (guard_yes rfl rfl rfl ?_)))
      refine op_lit (us := [(0, (.int .u64 15774714427196812772)), (1, (.int .u64 4767282599215168177))]) T.el39_encW [(15774714427196812772 : UInt64), (4767282599215168177 : UInt64)] rfl (by decide) rfl (fun a ha => by simp [ha.ev (show ev _ (.const (.int .u64 15774714427196812772)) = some _ from rfl), ha.ev (show ev _ (.const (.int .u64 4767282599215168177)) = some _ from rfl)]) (fun w => by kernel_rfl) hH141 (fun u142 lo144 hi145 w143 hH146 => ?_)
      refine guard_yes rfl rfl rfl ?_
      refine op_fnV rfl rfl rfl hH146 (c53) (fun w147 hH148 => ?_)
      refine guard_yes rfl rfl rfl ?_
      refine op_fnV rfl rfl rfl hH148 (c29 (Heap.rdw T.el39_encW hH148 (n := 14) rfl) (Heap.rdw T.el39_encW hH148 (n := 0) rfl) (by decide) (by decide)) (fun w149 hH150 => ?_)
      refine ops_y hH150 rfl rfl (yv_pick_t rfl rfl rfl) ?_
      refine ops_y hH150 rfl rfl (yv_move rfl) ?_
      have hc151 : ([15774714427196812772, 4767282599215168177] : List UInt64) = [(15774714427196812772 : UInt64), (4767282599215168177 : UInt64)] := rfl
      refine guard_yes rfl rfl (decide_eq_true hc151) ?_
      refine ops_y hH150 rfl rfl (yv_move rfl) ?_
      refine guard_yes rfl rfl (decide_eq_true hc151) ?_
      refine op_lit (us := [(0, (.int .u64 15774714427196812772)), (1, (.int .u64 4767282599215168177))]) T.el39_encW [(15774714427196812772 : UInt64), (4767282599215168177 : UInt64)] rfl (by decide) rfl (fun a ha => by simp [ha.ev (show ev _ (.const (.int .u64 15774714427196812772)) = some _ from rfl), ha.ev (show ev _ (.const (.int .u64 4767282599215168177)) = some _ from rfl)]) (fun w => by kernel_rfl) hH150 (fun u152 lo154 hi155 w153 hH156 => ?_)
      refine guard_yes rfl rfl (decide_eq_true hc151) ?_
      refine op_fnV rfl rfl rfl hH156 (c53) (fun w157 hH158 => ?_)
      refine guard_yes rfl rfl (decide_eq_true hc151) ?_
      refine op_fnV rfl rfl rfl hH158 (c29 (Heap.rdw T.el39_encW hH158 (n := 13) rfl) (Heap.rdw T.el39_encW hH158 (n := 0) rfl) (by decide) (by decide)) (fun w159 hH160 => ?_)
      refine ops_y hH160 rfl rfl (yv_pick_t rfl (decide_eq_true hc151) rfl) ?_
      refine ops_y hH160 rfl rfl (yv_move rfl) ?_
      refine guard_yes rfl rfl (decide_eq_true hc151) ?_
      refine ops_y hH160 rfl rfl (yv_loadA (cs := [bp105]) T.agg24 rfl rfl (fun _ hw => Heap.cellsw hw (n := 6) rfl (k := 0) rfl)) ?_
      refine guard_yes rfl rfl (decide_eq_true hc151) ?_
      refine ops_y hH160 rfl rfl (yv_loadA (cs := [bp7]) T.agg24 rfl rfl (fun _ hw => Heap.cellsw hw (n := 16) rfl (k := 0) rfl)) ?_
      refine guard_yes rfl rfl (decide_eq_true hc151) ?_
      refine op_fnV rfl rfl rfl hH160 (c42 ((show Rd encE 5 bp105 B.three _ from hH160.get (n := 7) rfl)) ((show Rd encE 5 bp7 B.three _ from hH160.get (n := 17) rfl)) (by decide) (by decide)) (fun w161 hH162 => ?_)
      refine ops_y hH162 rfl rfl (yv_pick_t rfl (decide_eq_true hc151) rfl) ?_
      refine ops_y hH162 rfl rfl (yv_move rfl) ?_
      refine guard_yes rfl rfl (decide_eq_true rfl) ?_
      refine ops_y hH162 rfl rfl (yv_loadA (cs := [bp120]) T.agg24 rfl rfl (fun _ hw => Heap.cellsw hw (n := 4) rfl (k := 0) rfl)) ?_
      refine guard_yes rfl rfl (decide_eq_true rfl) ?_
      refine ops_y hH162 rfl rfl (yv_loadA (cs := [bp7]) T.agg24 rfl rfl (fun _ hw => Heap.cellsw hw (n := 16) rfl (k := 0) rfl)) ?_
      refine guard_yes rfl rfl (decide_eq_true rfl) ?_
      refine op_fnV rfl rfl rfl hH162 (c42 ((show Rd encE 5 bp120 B.three _ from hH162.get (n := 5) rfl)) ((show Rd encE 5 bp7 B.three _ from hH162.get (n := 17) rfl)) (by decide) (by decide)) (fun w163 hH164 => ?_)
      refine ops_y hH164 rfl rfl (yv_pick_t rfl (decide_eq_true rfl) rfl) ?_
      refine ops_y hH164 rfl rfl (yv_move rfl) ?_
      refine guard_yes rfl rfl (decide_eq_true rfl) ?_
      refine ops_y hH164 rfl rfl (yv_move rfl) ?_
      refine guard_yes rfl rfl (decide_eq_true rfl) ?_
      refine ops_y hH164 rfl rfl (yv_castB (decide_eq_true rfl) (yv_eqlS rfl rfl)) ?_
      refine ops_y hH164 rfl rfl (yv_pick_t rfl (decide_eq_true rfl) rfl) ?_
      refine ops_y hH164 rfl rfl (yv_assign rfl) (ops_nil (thn_n (ret ?_)))
      have hH165 := (hH164.sub (List.Sublist.cons _ (List.Sublist.cons _ (List.Sublist.cons _ (List.Sublist.cons _ (List.Sublist.cons _ (List.Sublist.cons _ (List.Sublist.cons _ (List.Sublist.cons _ (List.Sublist.cons _ (List.Sublist.cons _ (List.Sublist.cons _ (List.Sublist.cons _ (List.Sublist.cons _ (List.Sublist.cons _ (List.Sublist.cons _ (List.Sublist.cons _ (List.Sublist.cons _ (List.Sublist.cons _ (List.Sublist.refl _))))))))))))))))))))
      refine fin hH165 (fun w' hf => (res1 rfl (show RV _ _ _ (.tmp 0) _ from rfl))) (fun w' hf => ?_)
      first | rfl | exact congrArg Value.bool (by decide)
   ·skip
    refine op_alloc (z := (.agg #[(.slice none 0 0)])) (us := [(.slice none 0 0)]) (fun _ => by kernel_rfl) rfl rfl hH96 (fun b166 w167 hH168 => ?_)
    refine ops_nil ?_
    refine ⟨trivial, ?_⟩
    refine any_all [8] (by kernel_rfl) rfl ?_
    refine ⟨⟨_, rfl, ?_⟩, trivial⟩
    ·skip
     refine op_fn rfl rfl rfl hH168 ((by have h := c36 (Rd.from ((show Rd encE 5 bp7 B.three _ from hH168.get (n := 10) rfl)) (lo := 1) (by omega)) (Rd.upto ((show Rd encE 5 bp7 B.three _ from hH168.get (n := 10) rfl)) (hi := 2) (by omega)) (by decide) (by decide) (w := w167); simp only [K.j1] at h; exact h)) (fun u171 w169 lo172 hi173 hH170 hv174 => ?_)
     obtain ⟨bp175, hu, -⟩ := hv174
     subst hu
     have hH176 := Heap.weak (ψ := Rd encE 5 bp175 B.three) hH170 (n := 0) rfl (fun w' h => (by obtain ⟨p', e, h⟩ := h; rw [agg_slice e]; exact h))
     refine ops_nil ?_
     refine ⟨trivial, ?_⟩
     refine any_takes [9, 10, 11] (by kernel_rfl) trivial _ _ _ (by kernel_rfl) ?_
     refine qs_y rfl rfl (yv_move rfl) ?_
     refine qs_y rfl rfl (yv_extract rfl rfl) ?_
     refine qs_y rfl rfl (yv_extract rfl rfl) ?_
     refine qs_nil ?_
     refine any_all [13] (by kernel_rfl) rfl ?_
     refine ⟨⟨_, rfl, ?_⟩, trivial⟩
     ·skip
      refine op_store (n := 1) (j := 0) (us := [bp175]) rfl rfl hH176 rfl T.sz24 rfl rfl rfl (all_one (SliceIs.one1 ((show Rd encE 5 bp175 B.three _ from hH176.get (n := 0) rfl)).is) rfl) (fun w177 hH178 => ?_)
      refine ops_nil ?_
      refine ⟨trivial, ?_⟩
      refine any_takes [14] (by kernel_rfl) trivial _ _ _ (by kernel_rfl) ?_
      refine qs_y rfl rfl (yv_assign rfl) (qs_nil ?_)
      refine any_done (by kernel_rfl) ?_
      refine thn_n (seq (region ?_))
      refine ops_y hH178 rfl rfl (yv_loadA (cs := [bp7]) T.agg24 rfl rfl (fun _ hw => Heap.cellsw hw (n := 10) rfl (k := 0) rfl)) ?_
      refine op_fnV rfl rfl rfl hH178 ((by have h := c38 ((show Rd encE 5 bp7 B.three _ from hH178.get (n := 11) rfl)) (by decide) (hG.now hH178 (n := 12) rfl)  (w := w177); simp only [K.f1] at h; exact h)) (fun w179 hH180 => ?_)
      refine ops_y hH180 rfl rfl (yv_move rfl) (ops_y hH180 rfl rfl (yv_extract rfl rfl) (ops_y hH180 rfl rfl (yv_extract rfl rfl) (ops_y hH180 rfl rfl (yv_assign rfl) (ops_y hH180 rfl rfl (yv_assign rfl) (ops_nil (thn_n (seq (region (ops_y hH180 rfl rfl (yv_move rfl) ?_)))))))))
      refine op_fn rfl rfl rfl hH180 ((by have h := c40 (l := [52, 32, 49, 48, 32, 49, 32, 50, 32, 51, 48, 48, 10, 55, 32, 49, 48, 32, 50, 32, 51, 32, 49, 50, 48, 10, 53, 32, 49, 50, 32, 51, 32, 49, 32, 53, 48, 10, 115, 117, 109, 32, 53, 100, 52, 49, 49, 52, 53, 48, 98, 48, 56, 49, 57, 51, 56, 56, 10]) (hG.now hH180 (n := 12) rfl) (by decide) (w := w179); simp only [K.l1] at h; exact h)) (fun u183 w181 lo184 hi185 hH182 hv186 => ?_)
      obtain ⟨bp187, hu, -⟩ := hv186
      subst hu
      have hH188 := Heap.weak (ψ := Rd encE 5 bp187 B.three) hH182 (n := 0) rfl (fun w' h => (by obtain ⟨p', e, h⟩ := h; rw [agg_slice e]; exact h))
      refine ops_y hH188 rfl rfl (yv_move rfl) (ops_y hH188 rfl rfl (yv_extract rfl rfl) (ops_y hH188 rfl rfl (yv_extract rfl rfl) ?_))
      refine op_alloc (z := (.agg #[(.slice none 0 0)])) (us := [(.slice none 0 0)]) (fun _ => by kernel_rfl) rfl rfl hH188 (fun b189 w190 hH191 => ?_)
      refine op_store (n := 0) (j := 0) (us := [bp187]) rfl rfl hH191 rfl T.sz24 rfl rfl rfl (all_one (SliceIs.one1 ((show Rd encE 5 bp187 B.three _ from hH191.get (n := 1) rfl)).is) rfl) (fun w192 hH193 => ?_)
      refine ops_y hH193 rfl rfl (yv_assign rfl) (ops_nil (thn_n (seq (region ?_))))
      refine op_fnV rfl rfl rfl hH193 ((by have h := c55 (x := 6719674455804711816) (w := w192); simp only [K.n1] at h; exact h)) (fun w194 hH195 => ?_)
      refine ops_y hH195 rfl rfl (yv_cat rfl rfl (by simp only [List.length_cons, List.length_nil, B.hex_length]; omega)) ?_
      refine ops_y hH195 rfl rfl (yv_castS K.sl (yv_cat rfl rfl (by rw [List.length_append]; simp only [List.length_cons, List.length_nil, B.hex_length]; omega))) ?_
      refine op_fn rfl rfl rfl hH195 ((by have h := c40 (l := [115, 117, 109, 32, 53, 100, 52, 49, 49, 52, 53, 48, 98, 48, 56, 49, 57, 51, 56, 56, 10]) (hG.now hH195 (n := 14) rfl) (by decide) (w := w194); simp only [K.l2] at h; exact h)) (fun u198 w196 lo199 hi200 hH197 hv201 => ?_)
      obtain ⟨bp202, hu, -⟩ := hv201
      subst hu
      have hH203 := Heap.weak (ψ := Rd encE 5 bp202 ([] : List En)) hH197 (n := 0) rfl (fun w' h => (by obtain ⟨p', e, h⟩ := h; rw [agg_slice e]; exact h))
      refine ops_y hH203 rfl rfl (yv_move rfl) (ops_y hH203 rfl rfl (yv_extract rfl rfl) (ops_y hH203 rfl rfl (yv_extract rfl rfl) ?_))
      refine op_alloc (z := (.agg #[(.slice none 0 0)])) (us := [(.slice none 0 0)]) (fun _ => by kernel_rfl) rfl rfl hH203 (fun b204 w205 hH206 => ?_)
      refine op_store (n := 0) (j := 0) (us := [bp202]) rfl rfl hH206 rfl T.sz24 rfl rfl rfl (all_one (SliceIs.one1 ((show Rd encE 5 bp202 ([] : List En) _ from hH206.get (n := 1) rfl)).is) rfl) (fun w207 hH208 => ?_)
      refine ops_y hH208 rfl rfl (yv_assign rfl) (ops_nil (thn_n (seq (seq (region (ops_y hH208 rfl rfl (yv_move rfl) ?_))))))
      refine ops_y hH208 rfl rfl (yv_castB rfl (yv_neq rfl rfl)) ?_
      refine ops_y hH208 rfl rfl (yv_move rfl) (guard_yes rfl rfl rfl (ops_y hH208 rfl rfl (yv_move rfl) (guard_yes rfl rfl rfl ?_)))
      refine ops_y hH208 rfl rfl (yv_castB rfl (yv_neq rfl rfl)) ?_
      refine ops_y hH208 rfl rfl (yv_pick_f rfl rfl rfl) ?_
      refine ops_y hH208 rfl rfl (yv_move rfl) (guard_yes rfl rfl rfl (ops_y hH208 rfl rfl (yv_move rfl) (guard_yes rfl rfl rfl ?_)))
      refine ops_y hH208 rfl rfl (yv_castB rfl (yv_neq rfl rfl)) ?_
      refine ops_y hH208 rfl rfl (yv_pick_f rfl rfl rfl) ?_
      refine ops_y hH208 rfl rfl (yv_move rfl) (guard_yes rfl rfl rfl (ops_y hH208 rfl rfl (yv_move rfl) (guard_yes rfl rfl rfl ?_)))
      refine ops_y hH208 rfl rfl (yv_castB rfl (yv_neq rfl rfl)) ?_
      refine ops_y hH208 rfl rfl (yv_pick_f rfl rfl rfl) ?_
      refine ops_y hH208 rfl rfl (yv_move rfl) (guard_yes rfl rfl rfl (ops_y hH208 rfl rfl (yv_move rfl) (guard_yes rfl rfl rfl ?_)))
      refine ops_y hH208 rfl rfl (yv_castB rfl (yv_neq rfl rfl)) ?_
      refine ops_y hH208 rfl rfl (yv_pick_f rfl rfl rfl) ?_
      refine ops_y hH208 rfl rfl (yv_move rfl) (guard_yes rfl rfl rfl (ops_y hH208 rfl rfl (yv_move rfl) (guard_yes rfl rfl rfl ?_)))
      refine ops_y hH208 rfl rfl (yv_castB rfl (yv_neq rfl rfl)) ?_
      refine ops_y hH208 rfl rfl (yv_pick_f rfl rfl rfl) ?_
      refine ops_y hH208 rfl rfl (yv_move rfl) (guard_yes rfl rfl rfl (ops_y hH208 rfl rfl (yv_move rfl) (guard_yes rfl rfl rfl ?_)))
      refine ops_y hH208 rfl rfl (yv_castB rfl (yv_neq rfl rfl)) ?_
      refine ops_y hH208 rfl rfl (yv_pick_f rfl rfl rfl) ?_
      refine ops_y hH208 rfl rfl (yv_move rfl) (guard_yes rfl rfl rfl (ops_y hH208 rfl rfl (yv_move rfl) (guard_yes rfl rfl rfl ?_)))
      refine ops_y hH208 rfl rfl (yv_castB rfl (yv_neq rfl rfl)) ?_
      refine ops_y hH208 rfl rfl (yv_pick_f rfl rfl rfl) ?_
      refine ops_y hH208 rfl rfl (yv_move rfl) (guard_yes rfl rfl rfl (ops_y hH208 rfl rfl (yv_move rfl) (guard_yes rfl rfl rfl ?_)))
      refine ops_y hH208 rfl rfl (yv_castB rfl (yv_neq rfl rfl)) ?_
      refine ops_y hH208 rfl rfl (yv_pick_f rfl rfl rfl) ?_
      refine ops_y hH208 rfl rfl (yv_move rfl) (guard_yes rfl rfl rfl (ops_y hH208 rfl rfl (yv_move rfl) (guard_yes rfl rfl rfl ?_)))
      refine ops_y hH208 rfl rfl (yv_castB rfl (yv_neq rfl rfl)) ?_
      refine ops_y hH208 rfl rfl (yv_pick_f rfl rfl rfl) ?_
      refine ops_y hH208 rfl rfl (yv_move rfl) (guard_yes rfl rfl rfl (ops_y hH208 rfl rfl (yv_move rfl) (guard_yes rfl rfl rfl ?_)))
      refine ops_y hH208 rfl rfl (yv_castB rfl (yv_neq rfl rfl)) ?_
      refine ops_y hH208 rfl rfl (yv_pick_f rfl rfl rfl) ?_
      refine ops_y hH208 rfl rfl (yv_move rfl) (guard_yes rfl rfl rfl (ops_y hH208 rfl rfl (yv_move rfl) (guard_yes rfl rfl rfl ?_)))
      refine ops_y hH208 rfl rfl (yv_castB rfl (yv_neq rfl rfl)) ?_
      refine ops_y hH208 rfl rfl (yv_pick_f rfl rfl rfl) ?_
      refine ops_y hH208 rfl rfl (yv_move rfl) (guard_yes rfl rfl rfl (ops_y hH208 rfl rfl (yv_move rfl) (guard_yes rfl rfl rfl ?_)))
      refine ops_y hH208 rfl rfl (yv_castB rfl (yv_neq rfl rfl)) ?_
      refine ops_y hH208 rfl rfl (yv_pick_f rfl rfl rfl) ?_
      refine ops_y hH208 rfl rfl (yv_move rfl) (guard_yes rfl rfl rfl (ops_y hH208 rfl rfl (yv_move rfl) (guard_yes rfl rfl rfl ?_)))
      refine ops_y hH208 rfl rfl (yv_castB rfl (yv_neq rfl rfl)) ?_
      refine ops_y hH208 rfl rfl (yv_pick_f rfl rfl rfl) ?_
      refine ops_y hH208 rfl rfl (yv_move rfl) (guard_yes rfl rfl rfl (ops_y hH208 rfl rfl (yv_move rfl) (guard_yes rfl rfl rfl ?_)))
      refine ops_y hH208 rfl rfl (yv_castB rfl (yv_neq rfl rfl)) ?_
      refine ops_y hH208 rfl rfl (yv_pick_f rfl rfl rfl) ?_
      refine ops_y hH208 rfl rfl (yv_move rfl) (guard_yes rfl rfl rfl (ops_y hH208 rfl rfl (yv_move rfl) (guard_yes rfl rfl rfl ?_)))
      refine ops_y hH208 rfl rfl (yv_castB rfl (yv_neq rfl rfl)) ?_
      refine ops_y hH208 rfl rfl (yv_pick_f rfl rfl rfl) ?_
      refine ops_nil (thn_n ?_)
      refine cond_f rfl rfl ?_
      refine skip (thn_n (seq (region (ops_y hH208 rfl rfl (yv_move rfl) ?_))))
      refine ops_y hH208 rfl rfl (yv_castB rfl (yv_eql rfl rfl)) ?_
      refine ops_y hH208 rfl rfl (yv_move rfl) (guard_yes rfl rfl rfl (ops_y hH208 rfl rfl (yv_move rfl) (guard_yes rfl rfl rfl ?_)))
      refine ops_y hH208 rfl rfl (yv_castB rfl (yv_eql rfl rfl)) ?_
      refine ops_y hH208 rfl rfl (yv_pick_t rfl rfl rfl) ?_
      refine ops_y hH208 rfl rfl (yv_move rfl) (guard_yes rfl rfl rfl (ops_y hH208 rfl rfl (yv_move rfl) (guard_yes rfl rfl rfl ?_)))
      refine ops_y hH208 rfl rfl (yv_castB rfl (yv_eql rfl rfl)) ?_
      refine ops_y hH208 rfl rfl (yv_pick_t rfl rfl rfl) ?_
      refine ops_y hH208 rfl rfl (yv_move rfl) (guard_yes rfl rfl rfl (ops_y hH208 rfl rfl (yv_move rfl) (guard_yes rfl rfl rfl ?_)))
      refine op_lit (us := [(0, (.int .u64 15774714427196812772)), (1, (.int .u64 4767282599215168177))]) T.el39_encW [(15774714427196812772 : UInt64), (4767282599215168177 : UInt64)] rfl (by decide) rfl (fun a ha => by simp [ha.ev (show ev _ (.const (.int .u64 15774714427196812772)) = some _ from rfl), ha.ev (show ev _ (.const (.int .u64 4767282599215168177)) = some _ from rfl)]) (fun w => by kernel_rfl) hH208 (fun u209 lo211 hi212 w210 hH213 => ?_)
      refine guard_yes rfl rfl rfl ?_
      refine op_fnV rfl rfl rfl hH213 (c53) (fun w214 hH215 => ?_)
      refine guard_yes rfl rfl rfl ?_
      refine op_fnV rfl rfl rfl hH215 (c29 (Heap.rdw T.el39_encW hH215 (n := 14) rfl) (Heap.rdw T.el39_encW hH215 (n := 0) rfl) (by decide) (by decide)) (fun w216 hH217 => ?_)
      refine ops_y hH217 rfl rfl (yv_pick_t rfl rfl rfl) ?_
      refine ops_y hH217 rfl rfl (yv_move rfl) ?_
      have hc218 : ([15774714427196812772, 4767282599215168177] : List UInt64) = [(15774714427196812772 : UInt64), (4767282599215168177 : UInt64)] := rfl
      refine guard_yes rfl rfl (decide_eq_true hc218) ?_
      refine ops_y hH217 rfl rfl (yv_move rfl) ?_
      refine guard_yes rfl rfl (decide_eq_true hc218) ?_
      refine op_lit (us := [(0, (.int .u64 15774714427196812772)), (1, (.int .u64 4767282599215168177))]) T.el39_encW [(15774714427196812772 : UInt64), (4767282599215168177 : UInt64)] rfl (by decide) rfl (fun a ha => by simp [ha.ev (show ev _ (.const (.int .u64 15774714427196812772)) = some _ from rfl), ha.ev (show ev _ (.const (.int .u64 4767282599215168177)) = some _ from rfl)]) (fun w => by kernel_rfl) hH217 (fun u219 lo221 hi222 w220 hH223 => ?_)
      refine guard_yes rfl rfl (decide_eq_true hc218) ?_
      refine op_fnV rfl rfl rfl hH223 (c53) (fun w224 hH225 => ?_)
      refine guard_yes rfl rfl (decide_eq_true hc218) ?_
      refine op_fnV rfl rfl rfl hH225 (c29 (Heap.rdw T.el39_encW hH225 (n := 13) rfl) (Heap.rdw T.el39_encW hH225 (n := 0) rfl) (by decide) (by decide)) (fun w226 hH227 => ?_)
      refine ops_y hH227 rfl rfl (yv_pick_t rfl (decide_eq_true hc218) rfl) ?_
      refine ops_y hH227 rfl rfl (yv_move rfl) ?_
      refine guard_yes rfl rfl (decide_eq_true hc218) ?_
      refine ops_y hH227 rfl rfl (yv_loadA (cs := [bp175]) T.agg24 rfl rfl (fun _ hw => Heap.cellsw hw (n := 7) rfl (k := 0) rfl)) ?_
      refine guard_yes rfl rfl (decide_eq_true hc218) ?_
      refine ops_y hH227 rfl rfl (yv_loadA (cs := [bp7]) T.agg24 rfl rfl (fun _ hw => Heap.cellsw hw (n := 16) rfl (k := 0) rfl)) ?_
      refine guard_yes rfl rfl (decide_eq_true hc218) ?_
      refine op_fnV rfl rfl rfl hH227 (c42 ((show Rd encE 5 bp175 B.three _ from hH227.get (n := 6) rfl)) ((show Rd encE 5 bp7 B.three _ from hH227.get (n := 17) rfl)) (by decide) (by decide)) (fun w228 hH229 => ?_)
      refine ops_y hH229 rfl rfl (yv_pick_t rfl (decide_eq_true hc218) rfl) ?_
      refine ops_y hH229 rfl rfl (yv_move rfl) ?_
      refine guard_yes rfl rfl (decide_eq_true rfl) ?_
      refine ops_y hH229 rfl rfl (yv_loadA (cs := [bp187]) T.agg24 rfl rfl (fun _ hw => Heap.cellsw hw (n := 4) rfl (k := 0) rfl)) ?_
      refine guard_yes rfl rfl (decide_eq_true rfl) ?_
      refine ops_y hH229 rfl rfl (yv_loadA (cs := [bp7]) T.agg24 rfl rfl (fun _ hw => Heap.cellsw hw (n := 16) rfl (k := 0) rfl)) ?_
      refine guard_yes rfl rfl (decide_eq_true rfl) ?_
      refine op_fnV rfl rfl rfl hH229 (c42 ((show Rd encE 5 bp187 B.three _ from hH229.get (n := 5) rfl)) ((show Rd encE 5 bp7 B.three _ from hH229.get (n := 17) rfl)) (by decide) (by decide)) (fun w230 hH231 => ?_)
      refine ops_y hH231 rfl rfl (yv_pick_t rfl (decide_eq_true rfl) rfl) ?_
      refine ops_y hH231 rfl rfl (yv_move rfl) ?_
      refine guard_yes rfl rfl (decide_eq_true rfl) ?_
      refine ops_y hH231 rfl rfl (yv_move rfl) ?_
      refine guard_yes rfl rfl (decide_eq_true rfl) ?_
      refine ops_y hH231 rfl rfl (yv_castB (decide_eq_true rfl) (yv_eqlS rfl rfl)) ?_
      refine ops_y hH231 rfl rfl (yv_pick_t rfl (decide_eq_true rfl) rfl) ?_
      refine ops_y hH231 rfl rfl (yv_assign rfl) (ops_nil (thn_n (ret ?_)))
      have hH232 := (hH231.sub (List.Sublist.cons _ (List.Sublist.cons _ (List.Sublist.cons _ (List.Sublist.cons _ (List.Sublist.cons _ (List.Sublist.cons _ (List.Sublist.cons _ (List.Sublist.cons _ (List.Sublist.cons _ (List.Sublist.cons _ (List.Sublist.cons _ (List.Sublist.cons _ (List.Sublist.cons _ (List.Sublist.cons _ (List.Sublist.cons _ (List.Sublist.cons _ (List.Sublist.cons _ (List.Sublist.cons _ (List.Sublist.refl _))))))))))))))))))))
      refine fin hH232 (fun w' hf => (res1 rfl (show RV _ _ _ (.tmp 0) _ from rfl))) (fun w' hf => ?_)
      first | rfl | exact congrArg Value.bool (by decide)
  ·skip
   refine op_alloc (z := (.agg #[(.slice none 0 0)])) (us := [(.slice none 0 0)]) (fun _ => by kernel_rfl) rfl rfl hH96 (fun b233 w234 hH235 => ?_)
   refine ops_nil ?_
   refine ⟨trivial, ?_⟩
   refine any_all [5] (by kernel_rfl) rfl ?_
   refine ⟨⟨_, rfl, ?_⟩, trivial⟩
   ·skip
    refine ops_y hH235 rfl rfl (yv_load T.one22 rfl (fun _ hw => Heap.cellw hw (n := 9) rfl rfl)) ?_
    refine ops_nil ?_
    refine ⟨trivial, ?_⟩
    obtain ⟨_, _, hb236, _⟩ := (Rd.upto ((show Rd encE 5 bp7 B.three _ from hH235.get (n := 10) rfl)) (hi := 2) (by omega)).is
    refine any_takes [6, 7] (by kernel_rfl) trivial _ _ _ (by kernel_rfl) ?_
    refine qs_y rfl rfl (yv_cut_hi T.sl22 rfl rfl ((show Rd encE 5 bp7 B.three _ from hH235.get (n := 10) rfl)).is (by omega)) ?_
    refine qs_y rfl rfl (yv_build (v := (.agg #[(cutv bp7 5 0 2)])) (us := [(0, (cutv bp7 5 0 2))]) (fun a ha => by simp [ha.ev (show ev _ (.tmp 91) = some _ from rfl)]) (fun w => by rw [hb236]; kernel_rfl)) ?_
    refine qs_nil ?_
    refine any_all [8] (by kernel_rfl) rfl ?_
    refine ⟨⟨_, rfl, ?_⟩, trivial⟩
    ·skip
     refine op_fn rfl rfl rfl hH235 ((by have h := c36 (Rd.from ((show Rd encE 5 bp7 B.three _ from hH235.get (n := 10) rfl)) (lo := 1) (by omega)) (Rd.upto ((show Rd encE 5 bp7 B.three _ from hH235.get (n := 10) rfl)) (hi := 2) (by omega)) (by decide) (by decide) (w := w234); simp only [K.j1] at h; exact h)) (fun u239 w237 lo240 hi241 hH238 hv242 => ?_)
     obtain ⟨bp243, hu, -⟩ := hv242
     subst hu
     have hH244 := Heap.weak (ψ := Rd encE 5 bp243 B.three) hH238 (n := 0) rfl (fun w' h => (by obtain ⟨p', e, h⟩ := h; rw [agg_slice e]; exact h))
     refine ops_nil ?_
     refine ⟨trivial, ?_⟩
     refine any_takes [9, 10, 11] (by kernel_rfl) trivial _ _ _ (by kernel_rfl) ?_
     refine qs_y rfl rfl (yv_move rfl) ?_
     refine qs_y rfl rfl (yv_extract rfl rfl) ?_
     refine qs_y rfl rfl (yv_extract rfl rfl) ?_
     refine qs_nil ?_
     refine any_all [13] (by kernel_rfl) rfl ?_
     refine ⟨⟨_, rfl, ?_⟩, trivial⟩
     ·skip
      refine op_store (n := 1) (j := 0) (us := [bp243]) rfl rfl hH244 rfl T.sz24 rfl rfl rfl (all_one (SliceIs.one1 ((show Rd encE 5 bp243 B.three _ from hH244.get (n := 0) rfl)).is) rfl) (fun w245 hH246 => ?_)
      refine ops_nil ?_
      refine ⟨trivial, ?_⟩
      refine any_takes [14] (by kernel_rfl) trivial _ _ _ (by kernel_rfl) ?_
      refine qs_y rfl rfl (yv_assign rfl) (qs_nil ?_)
      refine any_done (by kernel_rfl) ?_
      refine thn_n (seq (region ?_))
      refine ops_y hH246 rfl rfl (yv_loadA (cs := [bp7]) T.agg24 rfl rfl (fun _ hw => Heap.cellsw hw (n := 10) rfl (k := 0) rfl)) ?_
      refine op_fnV rfl rfl rfl hH246 ((by have h := c38 ((show Rd encE 5 bp7 B.three _ from hH246.get (n := 11) rfl)) (by decide) (hG.now hH246 (n := 12) rfl)  (w := w245); simp only [K.f1] at h; exact h)) (fun w247 hH248 => ?_)
      refine ops_y hH248 rfl rfl (yv_move rfl) (ops_y hH248 rfl rfl (yv_extract rfl rfl) (ops_y hH248 rfl rfl (yv_extract rfl rfl) (ops_y hH248 rfl rfl (yv_assign rfl) (ops_y hH248 rfl rfl (yv_assign rfl) (ops_nil (thn_n (seq (region (ops_y hH248 rfl rfl (yv_move rfl) ?_)))))))))
      refine op_fn rfl rfl rfl hH248 ((by have h := c40 (l := [52, 32, 49, 48, 32, 49, 32, 50, 32, 51, 48, 48, 10, 55, 32, 49, 48, 32, 50, 32, 51, 32, 49, 50, 48, 10, 53, 32, 49, 50, 32, 51, 32, 49, 32, 53, 48, 10, 115, 117, 109, 32, 53, 100, 52, 49, 49, 52, 53, 48, 98, 48, 56, 49, 57, 51, 56, 56, 10]) (hG.now hH248 (n := 12) rfl) (by decide) (w := w247); simp only [K.l1] at h; exact h)) (fun u251 w249 lo252 hi253 hH250 hv254 => ?_)
      obtain ⟨bp255, hu, -⟩ := hv254
      subst hu
      have hH256 := Heap.weak (ψ := Rd encE 5 bp255 B.three) hH250 (n := 0) rfl (fun w' h => (by obtain ⟨p', e, h⟩ := h; rw [agg_slice e]; exact h))
      refine ops_y hH256 rfl rfl (yv_move rfl) (ops_y hH256 rfl rfl (yv_extract rfl rfl) (ops_y hH256 rfl rfl (yv_extract rfl rfl) ?_))
      refine op_alloc (z := (.agg #[(.slice none 0 0)])) (us := [(.slice none 0 0)]) (fun _ => by kernel_rfl) rfl rfl hH256 (fun b257 w258 hH259 => ?_)
      refine op_store (n := 0) (j := 0) (us := [bp255]) rfl rfl hH259 rfl T.sz24 rfl rfl rfl (all_one (SliceIs.one1 ((show Rd encE 5 bp255 B.three _ from hH259.get (n := 1) rfl)).is) rfl) (fun w260 hH261 => ?_)
      refine ops_y hH261 rfl rfl (yv_assign rfl) (ops_nil (thn_n (seq (region ?_))))
      refine op_fnV rfl rfl rfl hH261 ((by have h := c55 (x := 6719674455804711816) (w := w260); simp only [K.n1] at h; exact h)) (fun w262 hH263 => ?_)
      refine ops_y hH263 rfl rfl (yv_cat rfl rfl (by simp only [List.length_cons, List.length_nil, B.hex_length]; omega)) ?_
      refine ops_y hH263 rfl rfl (yv_castS K.sl (yv_cat rfl rfl (by rw [List.length_append]; simp only [List.length_cons, List.length_nil, B.hex_length]; omega))) ?_
      refine op_fn rfl rfl rfl hH263 ((by have h := c40 (l := [115, 117, 109, 32, 53, 100, 52, 49, 49, 52, 53, 48, 98, 48, 56, 49, 57, 51, 56, 56, 10]) (hG.now hH263 (n := 14) rfl) (by decide) (w := w262); simp only [K.l2] at h; exact h)) (fun u266 w264 lo267 hi268 hH265 hv269 => ?_)
      obtain ⟨bp270, hu, -⟩ := hv269
      subst hu
      have hH271 := Heap.weak (ψ := Rd encE 5 bp270 ([] : List En)) hH265 (n := 0) rfl (fun w' h => (by obtain ⟨p', e, h⟩ := h; rw [agg_slice e]; exact h))
      refine ops_y hH271 rfl rfl (yv_move rfl) (ops_y hH271 rfl rfl (yv_extract rfl rfl) (ops_y hH271 rfl rfl (yv_extract rfl rfl) ?_))
      refine op_alloc (z := (.agg #[(.slice none 0 0)])) (us := [(.slice none 0 0)]) (fun _ => by kernel_rfl) rfl rfl hH271 (fun b272 w273 hH274 => ?_)
      refine op_store (n := 0) (j := 0) (us := [bp270]) rfl rfl hH274 rfl T.sz24 rfl rfl rfl (all_one (SliceIs.one1 ((show Rd encE 5 bp270 ([] : List En) _ from hH274.get (n := 1) rfl)).is) rfl) (fun w275 hH276 => ?_)
      refine ops_y hH276 rfl rfl (yv_assign rfl) (ops_nil (thn_n (seq (seq (region (ops_y hH276 rfl rfl (yv_move rfl) ?_))))))
      refine ops_y hH276 rfl rfl (yv_castB rfl (yv_neq rfl rfl)) ?_
      refine ops_y hH276 rfl rfl (yv_move rfl) (guard_yes rfl rfl rfl (ops_y hH276 rfl rfl (yv_move rfl) (guard_yes rfl rfl rfl ?_)))
      refine ops_y hH276 rfl rfl (yv_castB rfl (yv_neq rfl rfl)) ?_
      refine ops_y hH276 rfl rfl (yv_pick_f rfl rfl rfl) ?_
      refine ops_y hH276 rfl rfl (yv_move rfl) (guard_yes rfl rfl rfl (ops_y hH276 rfl rfl (yv_move rfl) (guard_yes rfl rfl rfl ?_)))
      refine ops_y hH276 rfl rfl (yv_castB rfl (yv_neq rfl rfl)) ?_
      refine ops_y hH276 rfl rfl (yv_pick_f rfl rfl rfl) ?_
      refine ops_y hH276 rfl rfl (yv_move rfl) (guard_yes rfl rfl rfl (ops_y hH276 rfl rfl (yv_move rfl) (guard_yes rfl rfl rfl ?_)))
      refine ops_y hH276 rfl rfl (yv_castB rfl (yv_neq rfl rfl)) ?_
      refine ops_y hH276 rfl rfl (yv_pick_f rfl rfl rfl) ?_
      refine ops_y hH276 rfl rfl (yv_move rfl) (guard_yes rfl rfl rfl (ops_y hH276 rfl rfl (yv_move rfl) (guard_yes rfl rfl rfl ?_)))
      refine ops_y hH276 rfl rfl (yv_castB rfl (yv_neq rfl rfl)) ?_
      refine ops_y hH276 rfl rfl (yv_pick_f rfl rfl rfl) ?_
      refine ops_y hH276 rfl rfl (yv_move rfl) (guard_yes rfl rfl rfl (ops_y hH276 rfl rfl (yv_move rfl) (guard_yes rfl rfl rfl ?_)))
      refine ops_y hH276 rfl rfl (yv_castB rfl (yv_neq rfl rfl)) ?_
      refine ops_y hH276 rfl rfl (yv_pick_f rfl rfl rfl) ?_
      refine ops_y hH276 rfl rfl (yv_move rfl) (guard_yes rfl rfl rfl (ops_y hH276 rfl rfl (yv_move rfl) (guard_yes rfl rfl rfl ?_)))
      refine ops_y hH276 rfl rfl (yv_castB rfl (yv_neq rfl rfl)) ?_
      refine ops_y hH276 rfl rfl (yv_pick_f rfl rfl rfl) ?_
      refine ops_y hH276 rfl rfl (yv_move rfl) (guard_yes rfl rfl rfl (ops_y hH276 rfl rfl (yv_move rfl) (guard_yes rfl rfl rfl ?_)))
      refine ops_y hH276 rfl rfl (yv_castB rfl (yv_neq rfl rfl)) ?_
      refine ops_y hH276 rfl rfl (yv_pick_f rfl rfl rfl) ?_
      refine ops_y hH276 rfl rfl (yv_move rfl) (guard_yes rfl rfl rfl (ops_y hH276 rfl rfl (yv_move rfl) (guard_yes rfl rfl rfl ?_)))
      refine ops_y hH276 rfl rfl (yv_castB rfl (yv_neq rfl rfl)) ?_
      refine ops_y hH276 rfl rfl (yv_pick_f rfl rfl rfl) ?_
      refine ops_y hH276 rfl rfl (yv_move rfl) (guard_yes rfl rfl rfl (ops_y hH276 rfl rfl (yv_move rfl) (guard_yes rfl rfl rfl ?_)))
      refine ops_y hH276 rfl rfl (yv_castB rfl (yv_neq rfl rfl)) ?_
      refine ops_y hH276 rfl rfl (yv_pick_f rfl rfl rfl) ?_
      refine ops_y hH276 rfl rfl (yv_move rfl) (guard_yes rfl rfl rfl (ops_y hH276 rfl rfl (yv_move rfl) (guard_yes rfl rfl rfl ?_)))
      refine ops_y hH276 rfl rfl (yv_castB rfl (yv_neq rfl rfl)) ?_
      refine ops_y hH276 rfl rfl (yv_pick_f rfl rfl rfl) ?_
      refine ops_y hH276 rfl rfl (yv_move rfl) (guard_yes rfl rfl rfl (ops_y hH276 rfl rfl (yv_move rfl) (guard_yes rfl rfl rfl ?_)))
      refine ops_y hH276 rfl rfl (yv_castB rfl (yv_neq rfl rfl)) ?_
      refine ops_y hH276 rfl rfl (yv_pick_f rfl rfl rfl) ?_
      refine ops_y hH276 rfl rfl (yv_move rfl) (guard_yes rfl rfl rfl (ops_y hH276 rfl rfl (yv_move rfl) (guard_yes rfl rfl rfl ?_)))
      refine ops_y hH276 rfl rfl (yv_castB rfl (yv_neq rfl rfl)) ?_
      refine ops_y hH276 rfl rfl (yv_pick_f rfl rfl rfl) ?_
      refine ops_y hH276 rfl rfl (yv_move rfl) (guard_yes rfl rfl rfl (ops_y hH276 rfl rfl (yv_move rfl) (guard_yes rfl rfl rfl ?_)))
      refine ops_y hH276 rfl rfl (yv_castB rfl (yv_neq rfl rfl)) ?_
      refine ops_y hH276 rfl rfl (yv_pick_f rfl rfl rfl) ?_
      refine ops_y hH276 rfl rfl (yv_move rfl) (guard_yes rfl rfl rfl (ops_y hH276 rfl rfl (yv_move rfl) (guard_yes rfl rfl rfl ?_)))
      refine ops_y hH276 rfl rfl (yv_castB rfl (yv_neq rfl rfl)) ?_
      refine ops_y hH276 rfl rfl (yv_pick_f rfl rfl rfl) ?_
      refine ops_y hH276 rfl rfl (yv_move rfl) (guard_yes rfl rfl rfl (ops_y hH276 rfl rfl (yv_move rfl) (guard_yes rfl rfl rfl ?_)))
      refine ops_y hH276 rfl rfl (yv_castB rfl (yv_neq rfl rfl)) ?_
      refine ops_y hH276 rfl rfl (yv_pick_f rfl rfl rfl) ?_
      refine ops_nil (thn_n ?_)
      refine cond_f rfl rfl ?_
      refine skip (thn_n (seq (region (ops_y hH276 rfl rfl (yv_move rfl) ?_))))
      refine ops_y hH276 rfl rfl (yv_castB rfl (yv_eql rfl rfl)) ?_
      refine ops_y hH276 rfl rfl (yv_move rfl) (guard_yes rfl rfl rfl (ops_y hH276 rfl rfl (yv_move rfl) (guard_yes rfl rfl rfl ?_)))
      refine ops_y hH276 rfl rfl (yv_castB rfl (yv_eql rfl rfl)) ?_
      refine ops_y hH276 rfl rfl (yv_pick_t rfl rfl rfl) ?_
      refine ops_y hH276 rfl rfl (yv_move rfl) (guard_yes rfl rfl rfl (ops_y hH276 rfl rfl (yv_move rfl) (guard_yes rfl rfl rfl ?_)))
      refine ops_y hH276 rfl rfl (yv_castB rfl (yv_eql rfl rfl)) ?_
      refine ops_y hH276 rfl rfl (yv_pick_t rfl rfl rfl) ?_
      refine ops_y hH276 rfl rfl (yv_move rfl) (guard_yes rfl rfl rfl (ops_y hH276 rfl rfl (yv_move rfl) (guard_yes rfl rfl rfl ?_)))
      refine op_lit (us := [(0, (.int .u64 15774714427196812772)), (1, (.int .u64 4767282599215168177))]) T.el39_encW [(15774714427196812772 : UInt64), (4767282599215168177 : UInt64)] rfl (by decide) rfl (fun a ha => by simp [ha.ev (show ev _ (.const (.int .u64 15774714427196812772)) = some _ from rfl), ha.ev (show ev _ (.const (.int .u64 4767282599215168177)) = some _ from rfl)]) (fun w => by kernel_rfl) hH276 (fun u277 lo279 hi280 w278 hH281 => ?_)
      refine guard_yes rfl rfl rfl ?_
      refine op_fnV rfl rfl rfl hH281 (c53) (fun w282 hH283 => ?_)
      refine guard_yes rfl rfl rfl ?_
      refine op_fnV rfl rfl rfl hH283 (c29 (Heap.rdw T.el39_encW hH283 (n := 14) rfl) (Heap.rdw T.el39_encW hH283 (n := 0) rfl) (by decide) (by decide)) (fun w284 hH285 => ?_)
      refine ops_y hH285 rfl rfl (yv_pick_t rfl rfl rfl) ?_
      refine ops_y hH285 rfl rfl (yv_move rfl) ?_
      have hc286 : ([15774714427196812772, 4767282599215168177] : List UInt64) = [(15774714427196812772 : UInt64), (4767282599215168177 : UInt64)] := rfl
      refine guard_yes rfl rfl (decide_eq_true hc286) ?_
      refine ops_y hH285 rfl rfl (yv_move rfl) ?_
      refine guard_yes rfl rfl (decide_eq_true hc286) ?_
      refine op_lit (us := [(0, (.int .u64 15774714427196812772)), (1, (.int .u64 4767282599215168177))]) T.el39_encW [(15774714427196812772 : UInt64), (4767282599215168177 : UInt64)] rfl (by decide) rfl (fun a ha => by simp [ha.ev (show ev _ (.const (.int .u64 15774714427196812772)) = some _ from rfl), ha.ev (show ev _ (.const (.int .u64 4767282599215168177)) = some _ from rfl)]) (fun w => by kernel_rfl) hH285 (fun u287 lo289 hi290 w288 hH291 => ?_)
      refine guard_yes rfl rfl (decide_eq_true hc286) ?_
      refine op_fnV rfl rfl rfl hH291 (c53) (fun w292 hH293 => ?_)
      refine guard_yes rfl rfl (decide_eq_true hc286) ?_
      refine op_fnV rfl rfl rfl hH293 (c29 (Heap.rdw T.el39_encW hH293 (n := 13) rfl) (Heap.rdw T.el39_encW hH293 (n := 0) rfl) (by decide) (by decide)) (fun w294 hH295 => ?_)
      refine ops_y hH295 rfl rfl (yv_pick_t rfl (decide_eq_true hc286) rfl) ?_
      refine ops_y hH295 rfl rfl (yv_move rfl) ?_
      refine guard_yes rfl rfl (decide_eq_true hc286) ?_
      refine ops_y hH295 rfl rfl (yv_loadA (cs := [bp243]) T.agg24 rfl rfl (fun _ hw => Heap.cellsw hw (n := 7) rfl (k := 0) rfl)) ?_
      refine guard_yes rfl rfl (decide_eq_true hc286) ?_
      refine ops_y hH295 rfl rfl (yv_loadA (cs := [bp7]) T.agg24 rfl rfl (fun _ hw => Heap.cellsw hw (n := 16) rfl (k := 0) rfl)) ?_
      refine guard_yes rfl rfl (decide_eq_true hc286) ?_
      refine op_fnV rfl rfl rfl hH295 (c42 ((show Rd encE 5 bp243 B.three _ from hH295.get (n := 6) rfl)) ((show Rd encE 5 bp7 B.three _ from hH295.get (n := 17) rfl)) (by decide) (by decide)) (fun w296 hH297 => ?_)
      refine ops_y hH297 rfl rfl (yv_pick_t rfl (decide_eq_true hc286) rfl) ?_
      refine ops_y hH297 rfl rfl (yv_move rfl) ?_
      refine guard_yes rfl rfl (decide_eq_true rfl) ?_
      refine ops_y hH297 rfl rfl (yv_loadA (cs := [bp255]) T.agg24 rfl rfl (fun _ hw => Heap.cellsw hw (n := 4) rfl (k := 0) rfl)) ?_
      refine guard_yes rfl rfl (decide_eq_true rfl) ?_
      refine ops_y hH297 rfl rfl (yv_loadA (cs := [bp7]) T.agg24 rfl rfl (fun _ hw => Heap.cellsw hw (n := 16) rfl (k := 0) rfl)) ?_
      refine guard_yes rfl rfl (decide_eq_true rfl) ?_
      refine op_fnV rfl rfl rfl hH297 (c42 ((show Rd encE 5 bp255 B.three _ from hH297.get (n := 5) rfl)) ((show Rd encE 5 bp7 B.three _ from hH297.get (n := 17) rfl)) (by decide) (by decide)) (fun w298 hH299 => ?_)
      refine ops_y hH299 rfl rfl (yv_pick_t rfl (decide_eq_true rfl) rfl) ?_
      refine ops_y hH299 rfl rfl (yv_move rfl) ?_
      refine guard_yes rfl rfl (decide_eq_true rfl) ?_
      refine ops_y hH299 rfl rfl (yv_move rfl) ?_
      refine guard_yes rfl rfl (decide_eq_true rfl) ?_
      refine ops_y hH299 rfl rfl (yv_castB (decide_eq_true rfl) (yv_eqlS rfl rfl)) ?_
      refine ops_y hH299 rfl rfl (yv_pick_t rfl (decide_eq_true rfl) rfl) ?_
      refine ops_y hH299 rfl rfl (yv_assign rfl) (ops_nil (thn_n (ret ?_)))
      have hH300 := (hH299.sub (List.Sublist.cons _ (List.Sublist.cons _ (List.Sublist.cons _ (List.Sublist.cons _ (List.Sublist.cons _ (List.Sublist.cons _ (List.Sublist.cons _ (List.Sublist.cons _ (List.Sublist.cons _ (List.Sublist.cons _ (List.Sublist.cons _ (List.Sublist.cons _ (List.Sublist.cons _ (List.Sublist.cons _ (List.Sublist.cons _ (List.Sublist.cons _ (List.Sublist.cons _ (List.Sublist.cons _ (List.Sublist.refl _))))))))))))))))))))
      refine fin hH300 (fun w' hf => (res1 rfl (show RV _ _ _ (.tmp 0) _ from rfl))) (fun w' hf => ?_)
      first | rfl | exact congrArg Value.bool (by decide)
 ·skip
  refine ops_y hH96 rfl rfl (yv_load T.one22 rfl (fun _ hw => Heap.cellw hw (n := 8) rfl rfl)) ?_
  refine ops_nil ?_
  refine ⟨trivial, ?_⟩
  obtain ⟨_, _, hb301, _⟩ := (Rd.upto ((show Rd encE 5 bp7 B.three _ from hH96.get (n := 9) rfl)) (hi := 2) (by omega)).is
  refine any_takes [6, 7] (by kernel_rfl) trivial _ _ _ (by kernel_rfl) ?_
  refine qs_y rfl rfl (yv_cut_hi T.sl22 rfl rfl ((show Rd encE 5 bp7 B.three _ from hH96.get (n := 9) rfl)).is (by omega)) ?_
  refine qs_y rfl rfl (yv_build (v := (.agg #[(cutv bp7 5 0 2)])) (us := [(0, (cutv bp7 5 0 2))]) (fun a ha => by simp [ha.ev (show ev _ (.tmp 91) = some _ from rfl)]) (fun w => by rw [hb301]; kernel_rfl)) ?_
  refine qs_nil ?_
  refine any_all [1, 12] (by kernel_rfl) rfl ?_
  refine ⟨⟨_, rfl, ?_⟩, ⟨_, rfl, ?_⟩, trivial⟩
  ·skip
   refine ops_y hH96 rfl rfl (yv_load T.one22 rfl (fun _ hw => Heap.cellw hw (n := 8) rfl rfl)) ?_
   refine ops_nil ?_
   refine ⟨trivial, ?_⟩
   obtain ⟨_, _, hb302, _⟩ := (Rd.from ((show Rd encE 5 bp7 B.three _ from hH96.get (n := 9) rfl)) (lo := 1) (by omega)).is
   refine any_takes [2, 3] (by kernel_rfl) trivial _ _ _ (by kernel_rfl) ?_
   refine qs_y rfl rfl (yv_cut_lo T.sl22 rfl rfl ((show Rd encE 5 bp7 B.three _ from hH96.get (n := 9) rfl)).is (by omega)) ?_
   refine qs_y rfl rfl (yv_build (v := (.agg #[(cutv bp7 5 1 B.three.length)])) (us := [(0, (cutv bp7 5 1 B.three.length))]) (fun a ha => by simp [ha.ev (show ev _ (.tmp 87) = some _ from rfl)]) (fun w => by rw [hb302]; kernel_rfl)) ?_
   refine qs_nil ?_
   refine any_all [8, 12] (by kernel_rfl) rfl ?_
   refine ⟨⟨_, rfl, ?_⟩, ⟨_, rfl, ?_⟩, trivial⟩
   ·skip
    refine op_fn rfl rfl rfl hH96 ((by have h := c36 (Rd.from ((show Rd encE 5 bp7 B.three _ from hH96.get (n := 9) rfl)) (lo := 1) (by omega)) (Rd.upto ((show Rd encE 5 bp7 B.three _ from hH96.get (n := 9) rfl)) (hi := 2) (by omega)) (by decide) (by decide) (w := w94); simp only [K.j1] at h; exact h)) (fun u305 w303 lo306 hi307 hH304 hv308 => ?_)
    obtain ⟨bp309, hu, -⟩ := hv308
    subst hu
    have hH310 := Heap.weak (ψ := Rd encE 5 bp309 B.three) hH304 (n := 0) rfl (fun w' h => (by obtain ⟨p', e, h⟩ := h; rw [agg_slice e]; exact h))
    refine ops_nil ?_
    refine ⟨trivial, ?_⟩
    refine any_takes [9, 10, 11] (by kernel_rfl) trivial _ _ _ (by kernel_rfl) ?_
    refine qs_y rfl rfl (yv_move rfl) ?_
    refine qs_y rfl rfl (yv_extract rfl rfl) ?_
    refine qs_y rfl rfl (yv_extract rfl rfl) ?_
    refine qs_nil ?_
    refine any_all [12] (by kernel_rfl) rfl ?_
    refine ⟨⟨_, rfl, ?_⟩, trivial⟩
    ·skip
     refine op_alloc (z := (.agg #[(.slice none 0 0)])) (us := [(.slice none 0 0)]) (fun _ => by kernel_rfl) rfl rfl hH310 (fun b311 w312 hH313 => ?_)
     refine ops_nil ?_
     refine ⟨trivial, ?_⟩
     refine any_all [13] (by kernel_rfl) rfl ?_
     refine ⟨⟨_, rfl, ?_⟩, trivial⟩
     ·skip
      refine op_store (n := 0) (j := 0) (us := [bp309]) rfl rfl hH313 rfl T.sz24 rfl rfl rfl (all_one (SliceIs.one1 ((show Rd encE 5 bp309 B.three _ from hH313.get (n := 1) rfl)).is) rfl) (fun w314 hH315 => ?_)
      refine ops_nil ?_
      refine ⟨trivial, ?_⟩
      refine any_takes [14] (by kernel_rfl) trivial _ _ _ (by kernel_rfl) ?_
      refine qs_y rfl rfl (yv_assign rfl) (qs_nil ?_)
      refine any_done (by kernel_rfl) ?_
      refine thn_n (seq (region ?_))
      refine ops_y hH315 rfl rfl (yv_loadA (cs := [bp7]) T.agg24 rfl rfl (fun _ hw => Heap.cellsw hw (n := 10) rfl (k := 0) rfl)) ?_
      refine op_fnV rfl rfl rfl hH315 ((by have h := c38 ((show Rd encE 5 bp7 B.three _ from hH315.get (n := 11) rfl)) (by decide) (hG.now hH315 (n := 12) rfl)  (w := w314); simp only [K.f1] at h; exact h)) (fun w316 hH317 => ?_)
      refine ops_y hH317 rfl rfl (yv_move rfl) (ops_y hH317 rfl rfl (yv_extract rfl rfl) (ops_y hH317 rfl rfl (yv_extract rfl rfl) (ops_y hH317 rfl rfl (yv_assign rfl) (ops_y hH317 rfl rfl (yv_assign rfl) (ops_nil (thn_n (seq (region (ops_y hH317 rfl rfl (yv_move rfl) ?_)))))))))
      refine op_fn rfl rfl rfl hH317 ((by have h := c40 (l := [52, 32, 49, 48, 32, 49, 32, 50, 32, 51, 48, 48, 10, 55, 32, 49, 48, 32, 50, 32, 51, 32, 49, 50, 48, 10, 53, 32, 49, 50, 32, 51, 32, 49, 32, 53, 48, 10, 115, 117, 109, 32, 53, 100, 52, 49, 49, 52, 53, 48, 98, 48, 56, 49, 57, 51, 56, 56, 10]) (hG.now hH317 (n := 12) rfl) (by decide) (w := w316); simp only [K.l1] at h; exact h)) (fun u320 w318 lo321 hi322 hH319 hv323 => ?_)
      obtain ⟨bp324, hu, -⟩ := hv323
      subst hu
      have hH325 := Heap.weak (ψ := Rd encE 5 bp324 B.three) hH319 (n := 0) rfl (fun w' h => (by obtain ⟨p', e, h⟩ := h; rw [agg_slice e]; exact h))
      refine ops_y hH325 rfl rfl (yv_move rfl) (ops_y hH325 rfl rfl (yv_extract rfl rfl) (ops_y hH325 rfl rfl (yv_extract rfl rfl) ?_))
      refine op_alloc (z := (.agg #[(.slice none 0 0)])) (us := [(.slice none 0 0)]) (fun _ => by kernel_rfl) rfl rfl hH325 (fun b326 w327 hH328 => ?_)
      refine op_store (n := 0) (j := 0) (us := [bp324]) rfl rfl hH328 rfl T.sz24 rfl rfl rfl (all_one (SliceIs.one1 ((show Rd encE 5 bp324 B.three _ from hH328.get (n := 1) rfl)).is) rfl) (fun w329 hH330 => ?_)
      refine ops_y hH330 rfl rfl (yv_assign rfl) (ops_nil (thn_n (seq (region ?_))))
      refine op_fnV rfl rfl rfl hH330 ((by have h := c55 (x := 6719674455804711816) (w := w329); simp only [K.n1] at h; exact h)) (fun w331 hH332 => ?_)
      refine ops_y hH332 rfl rfl (yv_cat rfl rfl (by simp only [List.length_cons, List.length_nil, B.hex_length]; omega)) ?_
      refine ops_y hH332 rfl rfl (yv_castS K.sl (yv_cat rfl rfl (by rw [List.length_append]; simp only [List.length_cons, List.length_nil, B.hex_length]; omega))) ?_
      refine op_fn rfl rfl rfl hH332 ((by have h := c40 (l := [115, 117, 109, 32, 53, 100, 52, 49, 49, 52, 53, 48, 98, 48, 56, 49, 57, 51, 56, 56, 10]) (hG.now hH332 (n := 14) rfl) (by decide) (w := w331); simp only [K.l2] at h; exact h)) (fun u335 w333 lo336 hi337 hH334 hv338 => ?_)
      obtain ⟨bp339, hu, -⟩ := hv338
      subst hu
      have hH340 := Heap.weak (ψ := Rd encE 5 bp339 ([] : List En)) hH334 (n := 0) rfl (fun w' h => (by obtain ⟨p', e, h⟩ := h; rw [agg_slice e]; exact h))
      refine ops_y hH340 rfl rfl (yv_move rfl) (ops_y hH340 rfl rfl (yv_extract rfl rfl) (ops_y hH340 rfl rfl (yv_extract rfl rfl) ?_))
      refine op_alloc (z := (.agg #[(.slice none 0 0)])) (us := [(.slice none 0 0)]) (fun _ => by kernel_rfl) rfl rfl hH340 (fun b341 w342 hH343 => ?_)
      refine op_store (n := 0) (j := 0) (us := [bp339]) rfl rfl hH343 rfl T.sz24 rfl rfl rfl (all_one (SliceIs.one1 ((show Rd encE 5 bp339 ([] : List En) _ from hH343.get (n := 1) rfl)).is) rfl) (fun w344 hH345 => ?_)
      refine ops_y hH345 rfl rfl (yv_assign rfl) (ops_nil (thn_n (seq (seq (region (ops_y hH345 rfl rfl (yv_move rfl) ?_))))))
      refine ops_y hH345 rfl rfl (yv_castB rfl (yv_neq rfl rfl)) ?_
      refine ops_y hH345 rfl rfl (yv_move rfl) (guard_yes rfl rfl rfl (ops_y hH345 rfl rfl (yv_move rfl) (guard_yes rfl rfl rfl ?_)))
      refine ops_y hH345 rfl rfl (yv_castB rfl (yv_neq rfl rfl)) ?_
      refine ops_y hH345 rfl rfl (yv_pick_f rfl rfl rfl) ?_
      refine ops_y hH345 rfl rfl (yv_move rfl) (guard_yes rfl rfl rfl (ops_y hH345 rfl rfl (yv_move rfl) (guard_yes rfl rfl rfl ?_)))
      refine ops_y hH345 rfl rfl (yv_castB rfl (yv_neq rfl rfl)) ?_
      refine ops_y hH345 rfl rfl (yv_pick_f rfl rfl rfl) ?_
      refine ops_y hH345 rfl rfl (yv_move rfl) (guard_yes rfl rfl rfl (ops_y hH345 rfl rfl (yv_move rfl) (guard_yes rfl rfl rfl ?_)))
      refine ops_y hH345 rfl rfl (yv_castB rfl (yv_neq rfl rfl)) ?_
      refine ops_y hH345 rfl rfl (yv_pick_f rfl rfl rfl) ?_
      refine ops_y hH345 rfl rfl (yv_move rfl) (guard_yes rfl rfl rfl (ops_y hH345 rfl rfl (yv_move rfl) (guard_yes rfl rfl rfl ?_)))
      refine ops_y hH345 rfl rfl (yv_castB rfl (yv_neq rfl rfl)) ?_
      refine ops_y hH345 rfl rfl (yv_pick_f rfl rfl rfl) ?_
      refine ops_y hH345 rfl rfl (yv_move rfl) (guard_yes rfl rfl rfl (ops_y hH345 rfl rfl (yv_move rfl) (guard_yes rfl rfl rfl ?_)))
      refine ops_y hH345 rfl rfl (yv_castB rfl (yv_neq rfl rfl)) ?_
      refine ops_y hH345 rfl rfl (yv_pick_f rfl rfl rfl) ?_
      refine ops_y hH345 rfl rfl (yv_move rfl) (guard_yes rfl rfl rfl (ops_y hH345 rfl rfl (yv_move rfl) (guard_yes rfl rfl rfl ?_)))
      refine ops_y hH345 rfl rfl (yv_castB rfl (yv_neq rfl rfl)) ?_
      refine ops_y hH345 rfl rfl (yv_pick_f rfl rfl rfl) ?_
      refine ops_y hH345 rfl rfl (yv_move rfl) (guard_yes rfl rfl rfl (ops_y hH345 rfl rfl (yv_move rfl) (guard_yes rfl rfl rfl ?_)))
      refine ops_y hH345 rfl rfl (yv_castB rfl (yv_neq rfl rfl)) ?_
      refine ops_y hH345 rfl rfl (yv_pick_f rfl rfl rfl) ?_
      refine ops_y hH345 rfl rfl (yv_move rfl) (guard_yes rfl rfl rfl (ops_y hH345 rfl rfl (yv_move rfl) (guard_yes rfl rfl rfl ?_)))
      refine ops_y hH345 rfl rfl (yv_castB rfl (yv_neq rfl rfl)) ?_
      refine ops_y hH345 rfl rfl (yv_pick_f rfl rfl rfl) ?_
      refine ops_y hH345 rfl rfl (yv_move rfl) (guard_yes rfl rfl rfl (ops_y hH345 rfl rfl (yv_move rfl) (guard_yes rfl rfl rfl ?_)))
      refine ops_y hH345 rfl rfl (yv_castB rfl (yv_neq rfl rfl)) ?_
      refine ops_y hH345 rfl rfl (yv_pick_f rfl rfl rfl) ?_
      refine ops_y hH345 rfl rfl (yv_move rfl) (guard_yes rfl rfl rfl (ops_y hH345 rfl rfl (yv_move rfl) (guard_yes rfl rfl rfl ?_)))
      refine ops_y hH345 rfl rfl (yv_castB rfl (yv_neq rfl rfl)) ?_
      refine ops_y hH345 rfl rfl (yv_pick_f rfl rfl rfl) ?_
      refine ops_y hH345 rfl rfl (yv_move rfl) (guard_yes rfl rfl rfl (ops_y hH345 rfl rfl (yv_move rfl) (guard_yes rfl rfl rfl ?_)))
      refine ops_y hH345 rfl rfl (yv_castB rfl (yv_neq rfl rfl)) ?_
      refine ops_y hH345 rfl rfl (yv_pick_f rfl rfl rfl) ?_
      refine ops_y hH345 rfl rfl (yv_move rfl) (guard_yes rfl rfl rfl (ops_y hH345 rfl rfl (yv_move rfl) (guard_yes rfl rfl rfl ?_)))
      refine ops_y hH345 rfl rfl (yv_castB rfl (yv_neq rfl rfl)) ?_
      refine ops_y hH345 rfl rfl (yv_pick_f rfl rfl rfl) ?_
      refine ops_y hH345 rfl rfl (yv_move rfl) (guard_yes rfl rfl rfl (ops_y hH345 rfl rfl (yv_move rfl) (guard_yes rfl rfl rfl ?_)))
      refine ops_y hH345 rfl rfl (yv_castB rfl (yv_neq rfl rfl)) ?_
      refine ops_y hH345 rfl rfl (yv_pick_f rfl rfl rfl) ?_
      refine ops_y hH345 rfl rfl (yv_move rfl) (guard_yes rfl rfl rfl (ops_y hH345 rfl rfl (yv_move rfl) (guard_yes rfl rfl rfl ?_)))
      refine ops_y hH345 rfl rfl (yv_castB rfl (yv_neq rfl rfl)) ?_
      refine ops_y hH345 rfl rfl (yv_pick_f rfl rfl rfl) ?_
      refine ops_y hH345 rfl rfl (yv_move rfl) (guard_yes rfl rfl rfl (ops_y hH345 rfl rfl (yv_move rfl) (guard_yes rfl rfl rfl ?_)))
      refine ops_y hH345 rfl rfl (yv_castB rfl (yv_neq rfl rfl)) ?_
      refine ops_y hH345 rfl rfl (yv_pick_f rfl rfl rfl) ?_
      refine ops_nil (thn_n ?_)
      refine cond_f rfl rfl ?_
      refine skip (thn_n (seq (region (ops_y hH345 rfl rfl (yv_move rfl) ?_))))
      refine ops_y hH345 rfl rfl (yv_castB rfl (yv_eql rfl rfl)) ?_
      refine ops_y hH345 rfl rfl (yv_move rfl) (guard_yes rfl rfl rfl (ops_y hH345 rfl rfl (yv_move rfl) (guard_yes rfl rfl rfl ?_)))
      refine ops_y hH345 rfl rfl (yv_castB rfl (yv_eql rfl rfl)) ?_
      refine ops_y hH345 rfl rfl (yv_pick_t rfl rfl rfl) ?_
      refine ops_y hH345 rfl rfl (yv_move rfl) (guard_yes rfl rfl rfl (ops_y hH345 rfl rfl (yv_move rfl) (guard_yes rfl rfl rfl ?_)))
      refine ops_y hH345 rfl rfl (yv_castB rfl (yv_eql rfl rfl)) ?_
      refine ops_y hH345 rfl rfl (yv_pick_t rfl rfl rfl) ?_
      refine ops_y hH345 rfl rfl (yv_move rfl) (guard_yes rfl rfl rfl (ops_y hH345 rfl rfl (yv_move rfl) (guard_yes rfl rfl rfl ?_)))
      refine op_lit (us := [(0, (.int .u64 15774714427196812772)), (1, (.int .u64 4767282599215168177))]) T.el39_encW [(15774714427196812772 : UInt64), (4767282599215168177 : UInt64)] rfl (by decide) rfl (fun a ha => by simp [ha.ev (show ev _ (.const (.int .u64 15774714427196812772)) = some _ from rfl), ha.ev (show ev _ (.const (.int .u64 4767282599215168177)) = some _ from rfl)]) (fun w => by kernel_rfl) hH345 (fun u346 lo348 hi349 w347 hH350 => ?_)
      refine guard_yes rfl rfl rfl ?_
      refine op_fnV rfl rfl rfl hH350 (c53) (fun w351 hH352 => ?_)
      refine guard_yes rfl rfl rfl ?_
      refine op_fnV rfl rfl rfl hH352 (c29 (Heap.rdw T.el39_encW hH352 (n := 14) rfl) (Heap.rdw T.el39_encW hH352 (n := 0) rfl) (by decide) (by decide)) (fun w353 hH354 => ?_)
      refine ops_y hH354 rfl rfl (yv_pick_t rfl rfl rfl) ?_
      refine ops_y hH354 rfl rfl (yv_move rfl) ?_
      have hc355 : ([15774714427196812772, 4767282599215168177] : List UInt64) = [(15774714427196812772 : UInt64), (4767282599215168177 : UInt64)] := rfl
      refine guard_yes rfl rfl (decide_eq_true hc355) ?_
      refine ops_y hH354 rfl rfl (yv_move rfl) ?_
      refine guard_yes rfl rfl (decide_eq_true hc355) ?_
      refine op_lit (us := [(0, (.int .u64 15774714427196812772)), (1, (.int .u64 4767282599215168177))]) T.el39_encW [(15774714427196812772 : UInt64), (4767282599215168177 : UInt64)] rfl (by decide) rfl (fun a ha => by simp [ha.ev (show ev _ (.const (.int .u64 15774714427196812772)) = some _ from rfl), ha.ev (show ev _ (.const (.int .u64 4767282599215168177)) = some _ from rfl)]) (fun w => by kernel_rfl) hH354 (fun u356 lo358 hi359 w357 hH360 => ?_)
      refine guard_yes rfl rfl (decide_eq_true hc355) ?_
      refine op_fnV rfl rfl rfl hH360 (c53) (fun w361 hH362 => ?_)
      refine guard_yes rfl rfl (decide_eq_true hc355) ?_
      refine op_fnV rfl rfl rfl hH362 (c29 (Heap.rdw T.el39_encW hH362 (n := 13) rfl) (Heap.rdw T.el39_encW hH362 (n := 0) rfl) (by decide) (by decide)) (fun w363 hH364 => ?_)
      refine ops_y hH364 rfl rfl (yv_pick_t rfl (decide_eq_true hc355) rfl) ?_
      refine ops_y hH364 rfl rfl (yv_move rfl) ?_
      refine guard_yes rfl rfl (decide_eq_true hc355) ?_
      refine ops_y hH364 rfl rfl (yv_loadA (cs := [bp309]) T.agg24 rfl rfl (fun _ hw => Heap.cellsw hw (n := 6) rfl (k := 0) rfl)) ?_
      refine guard_yes rfl rfl (decide_eq_true hc355) ?_
      refine ops_y hH364 rfl rfl (yv_loadA (cs := [bp7]) T.agg24 rfl rfl (fun _ hw => Heap.cellsw hw (n := 16) rfl (k := 0) rfl)) ?_
      refine guard_yes rfl rfl (decide_eq_true hc355) ?_
      refine op_fnV rfl rfl rfl hH364 (c42 ((show Rd encE 5 bp309 B.three _ from hH364.get (n := 7) rfl)) ((show Rd encE 5 bp7 B.three _ from hH364.get (n := 17) rfl)) (by decide) (by decide)) (fun w365 hH366 => ?_)
      refine ops_y hH366 rfl rfl (yv_pick_t rfl (decide_eq_true hc355) rfl) ?_
      refine ops_y hH366 rfl rfl (yv_move rfl) ?_
      refine guard_yes rfl rfl (decide_eq_true rfl) ?_
      refine ops_y hH366 rfl rfl (yv_loadA (cs := [bp324]) T.agg24 rfl rfl (fun _ hw => Heap.cellsw hw (n := 4) rfl (k := 0) rfl)) ?_
      refine guard_yes rfl rfl (decide_eq_true rfl) ?_
      refine ops_y hH366 rfl rfl (yv_loadA (cs := [bp7]) T.agg24 rfl rfl (fun _ hw => Heap.cellsw hw (n := 16) rfl (k := 0) rfl)) ?_
      refine guard_yes rfl rfl (decide_eq_true rfl) ?_
      refine op_fnV rfl rfl rfl hH366 (c42 ((show Rd encE 5 bp324 B.three _ from hH366.get (n := 5) rfl)) ((show Rd encE 5 bp7 B.three _ from hH366.get (n := 17) rfl)) (by decide) (by decide)) (fun w367 hH368 => ?_)
      refine ops_y hH368 rfl rfl (yv_pick_t rfl (decide_eq_true rfl) rfl) ?_
      refine ops_y hH368 rfl rfl (yv_move rfl) ?_
      refine guard_yes rfl rfl (decide_eq_true rfl) ?_
      refine ops_y hH368 rfl rfl (yv_move rfl) ?_
      refine guard_yes rfl rfl (decide_eq_true rfl) ?_
      refine ops_y hH368 rfl rfl (yv_castB (decide_eq_true rfl) (yv_eqlS rfl rfl)) ?_
      refine ops_y hH368 rfl rfl (yv_pick_t rfl (decide_eq_true rfl) rfl) ?_
      refine ops_y hH368 rfl rfl (yv_assign rfl) (ops_nil (thn_n (ret ?_)))
      have hH369 := (hH368.sub (List.Sublist.cons _ (List.Sublist.cons _ (List.Sublist.cons _ (List.Sublist.cons _ (List.Sublist.cons _ (List.Sublist.cons _ (List.Sublist.cons _ (List.Sublist.cons _ (List.Sublist.cons _ (List.Sublist.cons _ (List.Sublist.cons _ (List.Sublist.cons _ (List.Sublist.cons _ (List.Sublist.cons _ (List.Sublist.cons _ (List.Sublist.cons _ (List.Sublist.cons _ (List.Sublist.cons _ (List.Sublist.refl _))))))))))))))))))))
      refine fin hH369 (fun w' hf => (res1 rfl (show RV _ _ _ (.tmp 0) _ from rfl))) (fun w' hf => ?_)
      first | rfl | exact congrArg Value.bool (by decide)
   ·skip
    refine op_alloc (z := (.agg #[(.slice none 0 0)])) (us := [(.slice none 0 0)]) (fun _ => by kernel_rfl) rfl rfl hH96 (fun b370 w371 hH372 => ?_)
    refine ops_nil ?_
    refine ⟨trivial, ?_⟩
    refine any_all [8] (by kernel_rfl) rfl ?_
    refine ⟨⟨_, rfl, ?_⟩, trivial⟩
    ·skip
     refine op_fn rfl rfl rfl hH372 ((by have h := c36 (Rd.from ((show Rd encE 5 bp7 B.three _ from hH372.get (n := 10) rfl)) (lo := 1) (by omega)) (Rd.upto ((show Rd encE 5 bp7 B.three _ from hH372.get (n := 10) rfl)) (hi := 2) (by omega)) (by decide) (by decide) (w := w371); simp only [K.j1] at h; exact h)) (fun u375 w373 lo376 hi377 hH374 hv378 => ?_)
     obtain ⟨bp379, hu, -⟩ := hv378
     subst hu
     have hH380 := Heap.weak (ψ := Rd encE 5 bp379 B.three) hH374 (n := 0) rfl (fun w' h => (by obtain ⟨p', e, h⟩ := h; rw [agg_slice e]; exact h))
     refine ops_nil ?_
     refine ⟨trivial, ?_⟩
     refine any_takes [9, 10, 11] (by kernel_rfl) trivial _ _ _ (by kernel_rfl) ?_
     refine qs_y rfl rfl (yv_move rfl) ?_
     refine qs_y rfl rfl (yv_extract rfl rfl) ?_
     refine qs_y rfl rfl (yv_extract rfl rfl) ?_
     refine qs_nil ?_
     refine any_all [13] (by kernel_rfl) rfl ?_
     refine ⟨⟨_, rfl, ?_⟩, trivial⟩
     ·skip
      refine op_store (n := 1) (j := 0) (us := [bp379]) rfl rfl hH380 rfl T.sz24 rfl rfl rfl (all_one (SliceIs.one1 ((show Rd encE 5 bp379 B.three _ from hH380.get (n := 0) rfl)).is) rfl) (fun w381 hH382 => ?_)
      refine ops_nil ?_
      refine ⟨trivial, ?_⟩
      refine any_takes [14] (by kernel_rfl) trivial _ _ _ (by kernel_rfl) ?_
      refine qs_y rfl rfl (yv_assign rfl) (qs_nil ?_)
      refine any_done (by kernel_rfl) ?_
      refine thn_n (seq (region ?_))
      refine ops_y hH382 rfl rfl (yv_loadA (cs := [bp7]) T.agg24 rfl rfl (fun _ hw => Heap.cellsw hw (n := 10) rfl (k := 0) rfl)) ?_
      refine op_fnV rfl rfl rfl hH382 ((by have h := c38 ((show Rd encE 5 bp7 B.three _ from hH382.get (n := 11) rfl)) (by decide) (hG.now hH382 (n := 12) rfl)  (w := w381); simp only [K.f1] at h; exact h)) (fun w383 hH384 => ?_)
      refine ops_y hH384 rfl rfl (yv_move rfl) (ops_y hH384 rfl rfl (yv_extract rfl rfl) (ops_y hH384 rfl rfl (yv_extract rfl rfl) (ops_y hH384 rfl rfl (yv_assign rfl) (ops_y hH384 rfl rfl (yv_assign rfl) (ops_nil (thn_n (seq (region (ops_y hH384 rfl rfl (yv_move rfl) ?_)))))))))
      refine op_fn rfl rfl rfl hH384 ((by have h := c40 (l := [52, 32, 49, 48, 32, 49, 32, 50, 32, 51, 48, 48, 10, 55, 32, 49, 48, 32, 50, 32, 51, 32, 49, 50, 48, 10, 53, 32, 49, 50, 32, 51, 32, 49, 32, 53, 48, 10, 115, 117, 109, 32, 53, 100, 52, 49, 49, 52, 53, 48, 98, 48, 56, 49, 57, 51, 56, 56, 10]) (hG.now hH384 (n := 12) rfl) (by decide) (w := w383); simp only [K.l1] at h; exact h)) (fun u387 w385 lo388 hi389 hH386 hv390 => ?_)
      obtain ⟨bp391, hu, -⟩ := hv390
      subst hu
      have hH392 := Heap.weak (ψ := Rd encE 5 bp391 B.three) hH386 (n := 0) rfl (fun w' h => (by obtain ⟨p', e, h⟩ := h; rw [agg_slice e]; exact h))
      refine ops_y hH392 rfl rfl (yv_move rfl) (ops_y hH392 rfl rfl (yv_extract rfl rfl) (ops_y hH392 rfl rfl (yv_extract rfl rfl) ?_))
      refine op_alloc (z := (.agg #[(.slice none 0 0)])) (us := [(.slice none 0 0)]) (fun _ => by kernel_rfl) rfl rfl hH392 (fun b393 w394 hH395 => ?_)
      refine op_store (n := 0) (j := 0) (us := [bp391]) rfl rfl hH395 rfl T.sz24 rfl rfl rfl (all_one (SliceIs.one1 ((show Rd encE 5 bp391 B.three _ from hH395.get (n := 1) rfl)).is) rfl) (fun w396 hH397 => ?_)
      refine ops_y hH397 rfl rfl (yv_assign rfl) (ops_nil (thn_n (seq (region ?_))))
      refine op_fnV rfl rfl rfl hH397 ((by have h := c55 (x := 6719674455804711816) (w := w396); simp only [K.n1] at h; exact h)) (fun w398 hH399 => ?_)
      refine ops_y hH399 rfl rfl (yv_cat rfl rfl (by simp only [List.length_cons, List.length_nil, B.hex_length]; omega)) ?_
      refine ops_y hH399 rfl rfl (yv_castS K.sl (yv_cat rfl rfl (by rw [List.length_append]; simp only [List.length_cons, List.length_nil, B.hex_length]; omega))) ?_
      refine op_fn rfl rfl rfl hH399 ((by have h := c40 (l := [115, 117, 109, 32, 53, 100, 52, 49, 49, 52, 53, 48, 98, 48, 56, 49, 57, 51, 56, 56, 10]) (hG.now hH399 (n := 14) rfl) (by decide) (w := w398); simp only [K.l2] at h; exact h)) (fun u402 w400 lo403 hi404 hH401 hv405 => ?_)
      obtain ⟨bp406, hu, -⟩ := hv405
      subst hu
      have hH407 := Heap.weak (ψ := Rd encE 5 bp406 ([] : List En)) hH401 (n := 0) rfl (fun w' h => (by obtain ⟨p', e, h⟩ := h; rw [agg_slice e]; exact h))
      refine ops_y hH407 rfl rfl (yv_move rfl) (ops_y hH407 rfl rfl (yv_extract rfl rfl) (ops_y hH407 rfl rfl (yv_extract rfl rfl) ?_))
      refine op_alloc (z := (.agg #[(.slice none 0 0)])) (us := [(.slice none 0 0)]) (fun _ => by kernel_rfl) rfl rfl hH407 (fun b408 w409 hH410 => ?_)
      refine op_store (n := 0) (j := 0) (us := [bp406]) rfl rfl hH410 rfl T.sz24 rfl rfl rfl (all_one (SliceIs.one1 ((show Rd encE 5 bp406 ([] : List En) _ from hH410.get (n := 1) rfl)).is) rfl) (fun w411 hH412 => ?_)
      refine ops_y hH412 rfl rfl (yv_assign rfl) (ops_nil (thn_n (seq (seq (region (ops_y hH412 rfl rfl (yv_move rfl) ?_))))))
      refine ops_y hH412 rfl rfl (yv_castB rfl (yv_neq rfl rfl)) ?_
      refine ops_y hH412 rfl rfl (yv_move rfl) (guard_yes rfl rfl rfl (ops_y hH412 rfl rfl (yv_move rfl) (guard_yes rfl rfl rfl ?_)))
      refine ops_y hH412 rfl rfl (yv_castB rfl (yv_neq rfl rfl)) ?_
      refine ops_y hH412 rfl rfl (yv_pick_f rfl rfl rfl) ?_
      refine ops_y hH412 rfl rfl (yv_move rfl) (guard_yes rfl rfl rfl (ops_y hH412 rfl rfl (yv_move rfl) (guard_yes rfl rfl rfl ?_)))
      refine ops_y hH412 rfl rfl (yv_castB rfl (yv_neq rfl rfl)) ?_
      refine ops_y hH412 rfl rfl (yv_pick_f rfl rfl rfl) ?_
      refine ops_y hH412 rfl rfl (yv_move rfl) (guard_yes rfl rfl rfl (ops_y hH412 rfl rfl (yv_move rfl) (guard_yes rfl rfl rfl ?_)))
      refine ops_y hH412 rfl rfl (yv_castB rfl (yv_neq rfl rfl)) ?_
      refine ops_y hH412 rfl rfl (yv_pick_f rfl rfl rfl) ?_
      refine ops_y hH412 rfl rfl (yv_move rfl) (guard_yes rfl rfl rfl (ops_y hH412 rfl rfl (yv_move rfl) (guard_yes rfl rfl rfl ?_)))
      refine ops_y hH412 rfl rfl (yv_castB rfl (yv_neq rfl rfl)) ?_
      refine ops_y hH412 rfl rfl (yv_pick_f rfl rfl rfl) ?_
      refine ops_y hH412 rfl rfl (yv_move rfl) (guard_yes rfl rfl rfl (ops_y hH412 rfl rfl (yv_move rfl) (guard_yes rfl rfl rfl ?_)))
      refine ops_y hH412 rfl rfl (yv_castB rfl (yv_neq rfl rfl)) ?_
      refine ops_y hH412 rfl rfl (yv_pick_f rfl rfl rfl) ?_
      refine ops_y hH412 rfl rfl (yv_move rfl) (guard_yes rfl rfl rfl (ops_y hH412 rfl rfl (yv_move rfl) (guard_yes rfl rfl rfl ?_)))
      refine ops_y hH412 rfl rfl (yv_castB rfl (yv_neq rfl rfl)) ?_
      refine ops_y hH412 rfl rfl (yv_pick_f rfl rfl rfl) ?_
      refine ops_y hH412 rfl rfl (yv_move rfl) (guard_yes rfl rfl rfl (ops_y hH412 rfl rfl (yv_move rfl) (guard_yes rfl rfl rfl ?_)))
      refine ops_y hH412 rfl rfl (yv_castB rfl (yv_neq rfl rfl)) ?_
      refine ops_y hH412 rfl rfl (yv_pick_f rfl rfl rfl) ?_
      refine ops_y hH412 rfl rfl (yv_move rfl) (guard_yes rfl rfl rfl (ops_y hH412 rfl rfl (yv_move rfl) (guard_yes rfl rfl rfl ?_)))
      refine ops_y hH412 rfl rfl (yv_castB rfl (yv_neq rfl rfl)) ?_
      refine ops_y hH412 rfl rfl (yv_pick_f rfl rfl rfl) ?_
      refine ops_y hH412 rfl rfl (yv_move rfl) (guard_yes rfl rfl rfl (ops_y hH412 rfl rfl (yv_move rfl) (guard_yes rfl rfl rfl ?_)))
      refine ops_y hH412 rfl rfl (yv_castB rfl (yv_neq rfl rfl)) ?_
      refine ops_y hH412 rfl rfl (yv_pick_f rfl rfl rfl) ?_
      refine ops_y hH412 rfl rfl (yv_move rfl) (guard_yes rfl rfl rfl (ops_y hH412 rfl rfl (yv_move rfl) (guard_yes rfl rfl rfl ?_)))
      refine ops_y hH412 rfl rfl (yv_castB rfl (yv_neq rfl rfl)) ?_
      refine ops_y hH412 rfl rfl (yv_pick_f rfl rfl rfl) ?_
      refine ops_y hH412 rfl rfl (yv_move rfl) (guard_yes rfl rfl rfl (ops_y hH412 rfl rfl (yv_move rfl) (guard_yes rfl rfl rfl ?_)))
      refine ops_y hH412 rfl rfl (yv_castB rfl (yv_neq rfl rfl)) ?_
      refine ops_y hH412 rfl rfl (yv_pick_f rfl rfl rfl) ?_
      refine ops_y hH412 rfl rfl (yv_move rfl) (guard_yes rfl rfl rfl (ops_y hH412 rfl rfl (yv_move rfl) (guard_yes rfl rfl rfl ?_)))
      refine ops_y hH412 rfl rfl (yv_castB rfl (yv_neq rfl rfl)) ?_
      refine ops_y hH412 rfl rfl (yv_pick_f rfl rfl rfl) ?_
      refine ops_y hH412 rfl rfl (yv_move rfl) (guard_yes rfl rfl rfl (ops_y hH412 rfl rfl (yv_move rfl) (guard_yes rfl rfl rfl ?_)))
      refine ops_y hH412 rfl rfl (yv_castB rfl (yv_neq rfl rfl)) ?_
      refine ops_y hH412 rfl rfl (yv_pick_f rfl rfl rfl) ?_
      refine ops_y hH412 rfl rfl (yv_move rfl) (guard_yes rfl rfl rfl (ops_y hH412 rfl rfl (yv_move rfl) (guard_yes rfl rfl rfl ?_)))
      refine ops_y hH412 rfl rfl (yv_castB rfl (yv_neq rfl rfl)) ?_
      refine ops_y hH412 rfl rfl (yv_pick_f rfl rfl rfl) ?_
      refine ops_y hH412 rfl rfl (yv_move rfl) (guard_yes rfl rfl rfl (ops_y hH412 rfl rfl (yv_move rfl) (guard_yes rfl rfl rfl ?_)))
      refine ops_y hH412 rfl rfl (yv_castB rfl (yv_neq rfl rfl)) ?_
      refine ops_y hH412 rfl rfl (yv_pick_f rfl rfl rfl) ?_
      refine ops_nil (thn_n ?_)
      refine cond_f rfl rfl ?_
      refine skip (thn_n (seq (region (ops_y hH412 rfl rfl (yv_move rfl) ?_))))
      refine ops_y hH412 rfl rfl (yv_castB rfl (yv_eql rfl rfl)) ?_
      refine ops_y hH412 rfl rfl (yv_move rfl) (guard_yes rfl rfl rfl (ops_y hH412 rfl rfl (yv_move rfl) (guard_yes rfl rfl rfl ?_)))
      refine ops_y hH412 rfl rfl (yv_castB rfl (yv_eql rfl rfl)) ?_
      refine ops_y hH412 rfl rfl (yv_pick_t rfl rfl rfl) ?_
      refine ops_y hH412 rfl rfl (yv_move rfl) (guard_yes rfl rfl rfl (ops_y hH412 rfl rfl (yv_move rfl) (guard_yes rfl rfl rfl ?_)))
      refine ops_y hH412 rfl rfl (yv_castB rfl (yv_eql rfl rfl)) ?_
      refine ops_y hH412 rfl rfl (yv_pick_t rfl rfl rfl) ?_
      refine ops_y hH412 rfl rfl (yv_move rfl) (guard_yes rfl rfl rfl (ops_y hH412 rfl rfl (yv_move rfl) (guard_yes rfl rfl rfl ?_)))
      refine op_lit (us := [(0, (.int .u64 15774714427196812772)), (1, (.int .u64 4767282599215168177))]) T.el39_encW [(15774714427196812772 : UInt64), (4767282599215168177 : UInt64)] rfl (by decide) rfl (fun a ha => by simp [ha.ev (show ev _ (.const (.int .u64 15774714427196812772)) = some _ from rfl), ha.ev (show ev _ (.const (.int .u64 4767282599215168177)) = some _ from rfl)]) (fun w => by kernel_rfl) hH412 (fun u413 lo415 hi416 w414 hH417 => ?_)
      refine guard_yes rfl rfl rfl ?_
      refine op_fnV rfl rfl rfl hH417 (c53) (fun w418 hH419 => ?_)
      refine guard_yes rfl rfl rfl ?_
      refine op_fnV rfl rfl rfl hH419 (c29 (Heap.rdw T.el39_encW hH419 (n := 14) rfl) (Heap.rdw T.el39_encW hH419 (n := 0) rfl) (by decide) (by decide)) (fun w420 hH421 => ?_)
      refine ops_y hH421 rfl rfl (yv_pick_t rfl rfl rfl) ?_
      refine ops_y hH421 rfl rfl (yv_move rfl) ?_
      have hc422 : ([15774714427196812772, 4767282599215168177] : List UInt64) = [(15774714427196812772 : UInt64), (4767282599215168177 : UInt64)] := rfl
      refine guard_yes rfl rfl (decide_eq_true hc422) ?_
      refine ops_y hH421 rfl rfl (yv_move rfl) ?_
      refine guard_yes rfl rfl (decide_eq_true hc422) ?_
      refine op_lit (us := [(0, (.int .u64 15774714427196812772)), (1, (.int .u64 4767282599215168177))]) T.el39_encW [(15774714427196812772 : UInt64), (4767282599215168177 : UInt64)] rfl (by decide) rfl (fun a ha => by simp [ha.ev (show ev _ (.const (.int .u64 15774714427196812772)) = some _ from rfl), ha.ev (show ev _ (.const (.int .u64 4767282599215168177)) = some _ from rfl)]) (fun w => by kernel_rfl) hH421 (fun u423 lo425 hi426 w424 hH427 => ?_)
      refine guard_yes rfl rfl (decide_eq_true hc422) ?_
      refine op_fnV rfl rfl rfl hH427 (c53) (fun w428 hH429 => ?_)
      refine guard_yes rfl rfl (decide_eq_true hc422) ?_
      refine op_fnV rfl rfl rfl hH429 (c29 (Heap.rdw T.el39_encW hH429 (n := 13) rfl) (Heap.rdw T.el39_encW hH429 (n := 0) rfl) (by decide) (by decide)) (fun w430 hH431 => ?_)
      refine ops_y hH431 rfl rfl (yv_pick_t rfl (decide_eq_true hc422) rfl) ?_
      refine ops_y hH431 rfl rfl (yv_move rfl) ?_
      refine guard_yes rfl rfl (decide_eq_true hc422) ?_
      refine ops_y hH431 rfl rfl (yv_loadA (cs := [bp379]) T.agg24 rfl rfl (fun _ hw => Heap.cellsw hw (n := 7) rfl (k := 0) rfl)) ?_
      refine guard_yes rfl rfl (decide_eq_true hc422) ?_
      refine ops_y hH431 rfl rfl (yv_loadA (cs := [bp7]) T.agg24 rfl rfl (fun _ hw => Heap.cellsw hw (n := 16) rfl (k := 0) rfl)) ?_
      refine guard_yes rfl rfl (decide_eq_true hc422) ?_
      refine op_fnV rfl rfl rfl hH431 (c42 ((show Rd encE 5 bp379 B.three _ from hH431.get (n := 6) rfl)) ((show Rd encE 5 bp7 B.three _ from hH431.get (n := 17) rfl)) (by decide) (by decide)) (fun w432 hH433 => ?_)
      refine ops_y hH433 rfl rfl (yv_pick_t rfl (decide_eq_true hc422) rfl) ?_
      refine ops_y hH433 rfl rfl (yv_move rfl) ?_
      refine guard_yes rfl rfl (decide_eq_true rfl) ?_
      refine ops_y hH433 rfl rfl (yv_loadA (cs := [bp391]) T.agg24 rfl rfl (fun _ hw => Heap.cellsw hw (n := 4) rfl (k := 0) rfl)) ?_
      refine guard_yes rfl rfl (decide_eq_true rfl) ?_
      refine ops_y hH433 rfl rfl (yv_loadA (cs := [bp7]) T.agg24 rfl rfl (fun _ hw => Heap.cellsw hw (n := 16) rfl (k := 0) rfl)) ?_
      refine guard_yes rfl rfl (decide_eq_true rfl) ?_
      refine op_fnV rfl rfl rfl hH433 (c42 ((show Rd encE 5 bp391 B.three _ from hH433.get (n := 5) rfl)) ((show Rd encE 5 bp7 B.three _ from hH433.get (n := 17) rfl)) (by decide) (by decide)) (fun w434 hH435 => ?_)
      refine ops_y hH435 rfl rfl (yv_pick_t rfl (decide_eq_true rfl) rfl) ?_
      refine ops_y hH435 rfl rfl (yv_move rfl) ?_
      refine guard_yes rfl rfl (decide_eq_true rfl) ?_
      refine ops_y hH435 rfl rfl (yv_move rfl) ?_
      refine guard_yes rfl rfl (decide_eq_true rfl) ?_
      refine ops_y hH435 rfl rfl (yv_castB (decide_eq_true rfl) (yv_eqlS rfl rfl)) ?_
      refine ops_y hH435 rfl rfl (yv_pick_t rfl (decide_eq_true rfl) rfl) ?_
      refine ops_y hH435 rfl rfl (yv_assign rfl) (ops_nil (thn_n (ret ?_)))
      have hH436 := (hH435.sub (List.Sublist.cons _ (List.Sublist.cons _ (List.Sublist.cons _ (List.Sublist.cons _ (List.Sublist.cons _ (List.Sublist.cons _ (List.Sublist.cons _ (List.Sublist.cons _ (List.Sublist.cons _ (List.Sublist.cons _ (List.Sublist.cons _ (List.Sublist.cons _ (List.Sublist.cons _ (List.Sublist.cons _ (List.Sublist.cons _ (List.Sublist.cons _ (List.Sublist.cons _ (List.Sublist.cons _ (List.Sublist.refl _))))))))))))))))))))
      refine fin hH436 (fun w' hf => (res1 rfl (show RV _ _ _ (.tmp 0) _ from rfl))) (fun w' hf => ?_)
      first | rfl | exact congrArg Value.bool (by decide)
  ·skip
   refine op_alloc (z := (.agg #[(.slice none 0 0)])) (us := [(.slice none 0 0)]) (fun _ => by kernel_rfl) rfl rfl hH96 (fun b437 w438 hH439 => ?_)
   refine ops_nil ?_
   refine ⟨trivial, ?_⟩
   refine any_all [1] (by kernel_rfl) rfl ?_
   refine ⟨⟨_, rfl, ?_⟩, trivial⟩
   ·skip
    refine ops_y hH439 rfl rfl (yv_load T.one22 rfl (fun _ hw => Heap.cellw hw (n := 9) rfl rfl)) ?_
    refine ops_nil ?_
    refine ⟨trivial, ?_⟩
    obtain ⟨_, _, hb440, _⟩ := (Rd.from ((show Rd encE 5 bp7 B.three _ from hH439.get (n := 10) rfl)) (lo := 1) (by omega)).is
    refine any_takes [2, 3] (by kernel_rfl) trivial _ _ _ (by kernel_rfl) ?_
    refine qs_y rfl rfl (yv_cut_lo T.sl22 rfl rfl ((show Rd encE 5 bp7 B.three _ from hH439.get (n := 10) rfl)).is (by omega)) ?_
    refine qs_y rfl rfl (yv_build (v := (.agg #[(cutv bp7 5 1 B.three.length)])) (us := [(0, (cutv bp7 5 1 B.three.length))]) (fun a ha => by simp [ha.ev (show ev _ (.tmp 87) = some _ from rfl)]) (fun w => by rw [hb440]; kernel_rfl)) ?_
    refine qs_nil ?_
    refine any_all [8] (by kernel_rfl) rfl ?_
    refine ⟨⟨_, rfl, ?_⟩, trivial⟩
    ·skip
     refine op_fn rfl rfl rfl hH439 ((by have h := c36 (Rd.from ((show Rd encE 5 bp7 B.three _ from hH439.get (n := 10) rfl)) (lo := 1) (by omega)) (Rd.upto ((show Rd encE 5 bp7 B.three _ from hH439.get (n := 10) rfl)) (hi := 2) (by omega)) (by decide) (by decide) (w := w438); simp only [K.j1] at h; exact h)) (fun u443 w441 lo444 hi445 hH442 hv446 => ?_)
     obtain ⟨bp447, hu, -⟩ := hv446
     subst hu
     have hH448 := Heap.weak (ψ := Rd encE 5 bp447 B.three) hH442 (n := 0) rfl (fun w' h => (by obtain ⟨p', e, h⟩ := h; rw [agg_slice e]; exact h))
     refine ops_nil ?_
     refine ⟨trivial, ?_⟩
     refine any_takes [9, 10, 11] (by kernel_rfl) trivial _ _ _ (by kernel_rfl) ?_
     refine qs_y rfl rfl (yv_move rfl) ?_
     refine qs_y rfl rfl (yv_extract rfl rfl) ?_
     refine qs_y rfl rfl (yv_extract rfl rfl) ?_
     refine qs_nil ?_
     refine any_all [13] (by kernel_rfl) rfl ?_
     refine ⟨⟨_, rfl, ?_⟩, trivial⟩
     ·skip
      refine op_store (n := 1) (j := 0) (us := [bp447]) rfl rfl hH448 rfl T.sz24 rfl rfl rfl (all_one (SliceIs.one1 ((show Rd encE 5 bp447 B.three _ from hH448.get (n := 0) rfl)).is) rfl) (fun w449 hH450 => ?_)
      refine ops_nil ?_
      refine ⟨trivial, ?_⟩
      refine any_takes [14] (by kernel_rfl) trivial _ _ _ (by kernel_rfl) ?_
      refine qs_y rfl rfl (yv_assign rfl) (qs_nil ?_)
      refine any_done (by kernel_rfl) ?_
      refine thn_n (seq (region ?_))
      refine ops_y hH450 rfl rfl (yv_loadA (cs := [bp7]) T.agg24 rfl rfl (fun _ hw => Heap.cellsw hw (n := 10) rfl (k := 0) rfl)) ?_
      refine op_fnV rfl rfl rfl hH450 ((by have h := c38 ((show Rd encE 5 bp7 B.three _ from hH450.get (n := 11) rfl)) (by decide) (hG.now hH450 (n := 12) rfl)  (w := w449); simp only [K.f1] at h; exact h)) (fun w451 hH452 => ?_)
      refine ops_y hH452 rfl rfl (yv_move rfl) (ops_y hH452 rfl rfl (yv_extract rfl rfl) (ops_y hH452 rfl rfl (yv_extract rfl rfl) (ops_y hH452 rfl rfl (yv_assign rfl) (ops_y hH452 rfl rfl (yv_assign rfl) (ops_nil (thn_n (seq (region (ops_y hH452 rfl rfl (yv_move rfl) ?_)))))))))
      refine op_fn rfl rfl rfl hH452 ((by have h := c40 (l := [52, 32, 49, 48, 32, 49, 32, 50, 32, 51, 48, 48, 10, 55, 32, 49, 48, 32, 50, 32, 51, 32, 49, 50, 48, 10, 53, 32, 49, 50, 32, 51, 32, 49, 32, 53, 48, 10, 115, 117, 109, 32, 53, 100, 52, 49, 49, 52, 53, 48, 98, 48, 56, 49, 57, 51, 56, 56, 10]) (hG.now hH452 (n := 12) rfl) (by decide) (w := w451); simp only [K.l1] at h; exact h)) (fun u455 w453 lo456 hi457 hH454 hv458 => ?_)
      obtain ⟨bp459, hu, -⟩ := hv458
      subst hu
      have hH460 := Heap.weak (ψ := Rd encE 5 bp459 B.three) hH454 (n := 0) rfl (fun w' h => (by obtain ⟨p', e, h⟩ := h; rw [agg_slice e]; exact h))
      refine ops_y hH460 rfl rfl (yv_move rfl) (ops_y hH460 rfl rfl (yv_extract rfl rfl) (ops_y hH460 rfl rfl (yv_extract rfl rfl) ?_))
      refine op_alloc (z := (.agg #[(.slice none 0 0)])) (us := [(.slice none 0 0)]) (fun _ => by kernel_rfl) rfl rfl hH460 (fun b461 w462 hH463 => ?_)
      refine op_store (n := 0) (j := 0) (us := [bp459]) rfl rfl hH463 rfl T.sz24 rfl rfl rfl (all_one (SliceIs.one1 ((show Rd encE 5 bp459 B.three _ from hH463.get (n := 1) rfl)).is) rfl) (fun w464 hH465 => ?_)
      refine ops_y hH465 rfl rfl (yv_assign rfl) (ops_nil (thn_n (seq (region ?_))))
      refine op_fnV rfl rfl rfl hH465 ((by have h := c55 (x := 6719674455804711816) (w := w464); simp only [K.n1] at h; exact h)) (fun w466 hH467 => ?_)
      refine ops_y hH467 rfl rfl (yv_cat rfl rfl (by simp only [List.length_cons, List.length_nil, B.hex_length]; omega)) ?_
      refine ops_y hH467 rfl rfl (yv_castS K.sl (yv_cat rfl rfl (by rw [List.length_append]; simp only [List.length_cons, List.length_nil, B.hex_length]; omega))) ?_
      refine op_fn rfl rfl rfl hH467 ((by have h := c40 (l := [115, 117, 109, 32, 53, 100, 52, 49, 49, 52, 53, 48, 98, 48, 56, 49, 57, 51, 56, 56, 10]) (hG.now hH467 (n := 14) rfl) (by decide) (w := w466); simp only [K.l2] at h; exact h)) (fun u470 w468 lo471 hi472 hH469 hv473 => ?_)
      obtain ⟨bp474, hu, -⟩ := hv473
      subst hu
      have hH475 := Heap.weak (ψ := Rd encE 5 bp474 ([] : List En)) hH469 (n := 0) rfl (fun w' h => (by obtain ⟨p', e, h⟩ := h; rw [agg_slice e]; exact h))
      refine ops_y hH475 rfl rfl (yv_move rfl) (ops_y hH475 rfl rfl (yv_extract rfl rfl) (ops_y hH475 rfl rfl (yv_extract rfl rfl) ?_))
      refine op_alloc (z := (.agg #[(.slice none 0 0)])) (us := [(.slice none 0 0)]) (fun _ => by kernel_rfl) rfl rfl hH475 (fun b476 w477 hH478 => ?_)
      refine op_store (n := 0) (j := 0) (us := [bp474]) rfl rfl hH478 rfl T.sz24 rfl rfl rfl (all_one (SliceIs.one1 ((show Rd encE 5 bp474 ([] : List En) _ from hH478.get (n := 1) rfl)).is) rfl) (fun w479 hH480 => ?_)
      refine ops_y hH480 rfl rfl (yv_assign rfl) (ops_nil (thn_n (seq (seq (region (ops_y hH480 rfl rfl (yv_move rfl) ?_))))))
      refine ops_y hH480 rfl rfl (yv_castB rfl (yv_neq rfl rfl)) ?_
      refine ops_y hH480 rfl rfl (yv_move rfl) (guard_yes rfl rfl rfl (ops_y hH480 rfl rfl (yv_move rfl) (guard_yes rfl rfl rfl ?_)))
      refine ops_y hH480 rfl rfl (yv_castB rfl (yv_neq rfl rfl)) ?_
      refine ops_y hH480 rfl rfl (yv_pick_f rfl rfl rfl) ?_
      refine ops_y hH480 rfl rfl (yv_move rfl) (guard_yes rfl rfl rfl (ops_y hH480 rfl rfl (yv_move rfl) (guard_yes rfl rfl rfl ?_)))
      refine ops_y hH480 rfl rfl (yv_castB rfl (yv_neq rfl rfl)) ?_
      refine ops_y hH480 rfl rfl (yv_pick_f rfl rfl rfl) ?_
      refine ops_y hH480 rfl rfl (yv_move rfl) (guard_yes rfl rfl rfl (ops_y hH480 rfl rfl (yv_move rfl) (guard_yes rfl rfl rfl ?_)))
      refine ops_y hH480 rfl rfl (yv_castB rfl (yv_neq rfl rfl)) ?_
      refine ops_y hH480 rfl rfl (yv_pick_f rfl rfl rfl) ?_
      refine ops_y hH480 rfl rfl (yv_move rfl) (guard_yes rfl rfl rfl (ops_y hH480 rfl rfl (yv_move rfl) (guard_yes rfl rfl rfl ?_)))
      refine ops_y hH480 rfl rfl (yv_castB rfl (yv_neq rfl rfl)) ?_
      refine ops_y hH480 rfl rfl (yv_pick_f rfl rfl rfl) ?_
      refine ops_y hH480 rfl rfl (yv_move rfl) (guard_yes rfl rfl rfl (ops_y hH480 rfl rfl (yv_move rfl) (guard_yes rfl rfl rfl ?_)))
      refine ops_y hH480 rfl rfl (yv_castB rfl (yv_neq rfl rfl)) ?_
      refine ops_y hH480 rfl rfl (yv_pick_f rfl rfl rfl) ?_
      refine ops_y hH480 rfl rfl (yv_move rfl) (guard_yes rfl rfl rfl (ops_y hH480 rfl rfl (yv_move rfl) (guard_yes rfl rfl rfl ?_)))
      refine ops_y hH480 rfl rfl (yv_castB rfl (yv_neq rfl rfl)) ?_
      refine ops_y hH480 rfl rfl (yv_pick_f rfl rfl rfl) ?_
      refine ops_y hH480 rfl rfl (yv_move rfl) (guard_yes rfl rfl rfl (ops_y hH480 rfl rfl (yv_move rfl) (guard_yes rfl rfl rfl ?_)))
      refine ops_y hH480 rfl rfl (yv_castB rfl (yv_neq rfl rfl)) ?_
      refine ops_y hH480 rfl rfl (yv_pick_f rfl rfl rfl) ?_
      refine ops_y hH480 rfl rfl (yv_move rfl) (guard_yes rfl rfl rfl (ops_y hH480 rfl rfl (yv_move rfl) (guard_yes rfl rfl rfl ?_)))
      refine ops_y hH480 rfl rfl (yv_castB rfl (yv_neq rfl rfl)) ?_
      refine ops_y hH480 rfl rfl (yv_pick_f rfl rfl rfl) ?_
      refine ops_y hH480 rfl rfl (yv_move rfl) (guard_yes rfl rfl rfl (ops_y hH480 rfl rfl (yv_move rfl) (guard_yes rfl rfl rfl ?_)))
      refine ops_y hH480 rfl rfl (yv_castB rfl (yv_neq rfl rfl)) ?_
      refine ops_y hH480 rfl rfl (yv_pick_f rfl rfl rfl) ?_
      refine ops_y hH480 rfl rfl (yv_move rfl) (guard_yes rfl rfl rfl (ops_y hH480 rfl rfl (yv_move rfl) (guard_yes rfl rfl rfl ?_)))
      refine ops_y hH480 rfl rfl (yv_castB rfl (yv_neq rfl rfl)) ?_
      refine ops_y hH480 rfl rfl (yv_pick_f rfl rfl rfl) ?_
      refine ops_y hH480 rfl rfl (yv_move rfl) (guard_yes rfl rfl rfl (ops_y hH480 rfl rfl (yv_move rfl) (guard_yes rfl rfl rfl ?_)))
      refine ops_y hH480 rfl rfl (yv_castB rfl (yv_neq rfl rfl)) ?_
      refine ops_y hH480 rfl rfl (yv_pick_f rfl rfl rfl) ?_
      refine ops_y hH480 rfl rfl (yv_move rfl) (guard_yes rfl rfl rfl (ops_y hH480 rfl rfl (yv_move rfl) (guard_yes rfl rfl rfl ?_)))
      refine ops_y hH480 rfl rfl (yv_castB rfl (yv_neq rfl rfl)) ?_
      refine ops_y hH480 rfl rfl (yv_pick_f rfl rfl rfl) ?_
      refine ops_y hH480 rfl rfl (yv_move rfl) (guard_yes rfl rfl rfl (ops_y hH480 rfl rfl (yv_move rfl) (guard_yes rfl rfl rfl ?_)))
      refine ops_y hH480 rfl rfl (yv_castB rfl (yv_neq rfl rfl)) ?_
      refine ops_y hH480 rfl rfl (yv_pick_f rfl rfl rfl) ?_
      refine ops_y hH480 rfl rfl (yv_move rfl) (guard_yes rfl rfl rfl (ops_y hH480 rfl rfl (yv_move rfl) (guard_yes rfl rfl rfl ?_)))
      refine ops_y hH480 rfl rfl (yv_castB rfl (yv_neq rfl rfl)) ?_
      refine ops_y hH480 rfl rfl (yv_pick_f rfl rfl rfl) ?_
      refine ops_y hH480 rfl rfl (yv_move rfl) (guard_yes rfl rfl rfl (ops_y hH480 rfl rfl (yv_move rfl) (guard_yes rfl rfl rfl ?_)))
      refine ops_y hH480 rfl rfl (yv_castB rfl (yv_neq rfl rfl)) ?_
      refine ops_y hH480 rfl rfl (yv_pick_f rfl rfl rfl) ?_
      refine ops_nil (thn_n ?_)
      refine cond_f rfl rfl ?_
      refine skip (thn_n (seq (region (ops_y hH480 rfl rfl (yv_move rfl) ?_))))
      refine ops_y hH480 rfl rfl (yv_castB rfl (yv_eql rfl rfl)) ?_
      refine ops_y hH480 rfl rfl (yv_move rfl) (guard_yes rfl rfl rfl (ops_y hH480 rfl rfl (yv_move rfl) (guard_yes rfl rfl rfl ?_)))
      refine ops_y hH480 rfl rfl (yv_castB rfl (yv_eql rfl rfl)) ?_
      refine ops_y hH480 rfl rfl (yv_pick_t rfl rfl rfl) ?_
      refine ops_y hH480 rfl rfl (yv_move rfl) (guard_yes rfl rfl rfl (ops_y hH480 rfl rfl (yv_move rfl) (guard_yes rfl rfl rfl ?_)))
      refine ops_y hH480 rfl rfl (yv_castB rfl (yv_eql rfl rfl)) ?_
      refine ops_y hH480 rfl rfl (yv_pick_t rfl rfl rfl) ?_
      refine ops_y hH480 rfl rfl (yv_move rfl) (guard_yes rfl rfl rfl (ops_y hH480 rfl rfl (yv_move rfl) (guard_yes rfl rfl rfl ?_)))
      refine op_lit (us := [(0, (.int .u64 15774714427196812772)), (1, (.int .u64 4767282599215168177))]) T.el39_encW [(15774714427196812772 : UInt64), (4767282599215168177 : UInt64)] rfl (by decide) rfl (fun a ha => by simp [ha.ev (show ev _ (.const (.int .u64 15774714427196812772)) = some _ from rfl), ha.ev (show ev _ (.const (.int .u64 4767282599215168177)) = some _ from rfl)]) (fun w => by kernel_rfl) hH480 (fun u481 lo483 hi484 w482 hH485 => ?_)
      refine guard_yes rfl rfl rfl ?_
      refine op_fnV rfl rfl rfl hH485 (c53) (fun w486 hH487 => ?_)
      refine guard_yes rfl rfl rfl ?_
      refine op_fnV rfl rfl rfl hH487 (c29 (Heap.rdw T.el39_encW hH487 (n := 14) rfl) (Heap.rdw T.el39_encW hH487 (n := 0) rfl) (by decide) (by decide)) (fun w488 hH489 => ?_)
      refine ops_y hH489 rfl rfl (yv_pick_t rfl rfl rfl) ?_
      refine ops_y hH489 rfl rfl (yv_move rfl) ?_
      have hc490 : ([15774714427196812772, 4767282599215168177] : List UInt64) = [(15774714427196812772 : UInt64), (4767282599215168177 : UInt64)] := rfl
      refine guard_yes rfl rfl (decide_eq_true hc490) ?_
      refine ops_y hH489 rfl rfl (yv_move rfl) ?_
      refine guard_yes rfl rfl (decide_eq_true hc490) ?_
      refine op_lit (us := [(0, (.int .u64 15774714427196812772)), (1, (.int .u64 4767282599215168177))]) T.el39_encW [(15774714427196812772 : UInt64), (4767282599215168177 : UInt64)] rfl (by decide) rfl (fun a ha => by simp [ha.ev (show ev _ (.const (.int .u64 15774714427196812772)) = some _ from rfl), ha.ev (show ev _ (.const (.int .u64 4767282599215168177)) = some _ from rfl)]) (fun w => by kernel_rfl) hH489 (fun u491 lo493 hi494 w492 hH495 => ?_)
      refine guard_yes rfl rfl (decide_eq_true hc490) ?_
      refine op_fnV rfl rfl rfl hH495 (c53) (fun w496 hH497 => ?_)
      refine guard_yes rfl rfl (decide_eq_true hc490) ?_
      refine op_fnV rfl rfl rfl hH497 (c29 (Heap.rdw T.el39_encW hH497 (n := 13) rfl) (Heap.rdw T.el39_encW hH497 (n := 0) rfl) (by decide) (by decide)) (fun w498 hH499 => ?_)
      refine ops_y hH499 rfl rfl (yv_pick_t rfl (decide_eq_true hc490) rfl) ?_
      refine ops_y hH499 rfl rfl (yv_move rfl) ?_
      refine guard_yes rfl rfl (decide_eq_true hc490) ?_
      refine ops_y hH499 rfl rfl (yv_loadA (cs := [bp447]) T.agg24 rfl rfl (fun _ hw => Heap.cellsw hw (n := 7) rfl (k := 0) rfl)) ?_
      refine guard_yes rfl rfl (decide_eq_true hc490) ?_
      refine ops_y hH499 rfl rfl (yv_loadA (cs := [bp7]) T.agg24 rfl rfl (fun _ hw => Heap.cellsw hw (n := 16) rfl (k := 0) rfl)) ?_
      refine guard_yes rfl rfl (decide_eq_true hc490) ?_
      refine op_fnV rfl rfl rfl hH499 (c42 ((show Rd encE 5 bp447 B.three _ from hH499.get (n := 6) rfl)) ((show Rd encE 5 bp7 B.three _ from hH499.get (n := 17) rfl)) (by decide) (by decide)) (fun w500 hH501 => ?_)
      refine ops_y hH501 rfl rfl (yv_pick_t rfl (decide_eq_true hc490) rfl) ?_
      refine ops_y hH501 rfl rfl (yv_move rfl) ?_
      refine guard_yes rfl rfl (decide_eq_true rfl) ?_
      refine ops_y hH501 rfl rfl (yv_loadA (cs := [bp459]) T.agg24 rfl rfl (fun _ hw => Heap.cellsw hw (n := 4) rfl (k := 0) rfl)) ?_
      refine guard_yes rfl rfl (decide_eq_true rfl) ?_
      refine ops_y hH501 rfl rfl (yv_loadA (cs := [bp7]) T.agg24 rfl rfl (fun _ hw => Heap.cellsw hw (n := 16) rfl (k := 0) rfl)) ?_
      refine guard_yes rfl rfl (decide_eq_true rfl) ?_
      refine op_fnV rfl rfl rfl hH501 (c42 ((show Rd encE 5 bp459 B.three _ from hH501.get (n := 5) rfl)) ((show Rd encE 5 bp7 B.three _ from hH501.get (n := 17) rfl)) (by decide) (by decide)) (fun w502 hH503 => ?_)
      refine ops_y hH503 rfl rfl (yv_pick_t rfl (decide_eq_true rfl) rfl) ?_
      refine ops_y hH503 rfl rfl (yv_move rfl) ?_
      refine guard_yes rfl rfl (decide_eq_true rfl) ?_
      refine ops_y hH503 rfl rfl (yv_move rfl) ?_
      refine guard_yes rfl rfl (decide_eq_true rfl) ?_
      refine ops_y hH503 rfl rfl (yv_castB (decide_eq_true rfl) (yv_eqlS rfl rfl)) ?_
      refine ops_y hH503 rfl rfl (yv_pick_t rfl (decide_eq_true rfl) rfl) ?_
      refine ops_y hH503 rfl rfl (yv_assign rfl) (ops_nil (thn_n (ret ?_)))
      have hH504 := (hH503.sub (List.Sublist.cons _ (List.Sublist.cons _ (List.Sublist.cons _ (List.Sublist.cons _ (List.Sublist.cons _ (List.Sublist.cons _ (List.Sublist.cons _ (List.Sublist.cons _ (List.Sublist.cons _ (List.Sublist.cons _ (List.Sublist.cons _ (List.Sublist.cons _ (List.Sublist.cons _ (List.Sublist.cons _ (List.Sublist.cons _ (List.Sublist.cons _ (List.Sublist.cons _ (List.Sublist.cons _ (List.Sublist.refl _))))))))))))))))))))
      refine fin hH504 (fun w' hf => (res1 rfl (show RV _ _ _ (.tmp 0) _ from rfl))) (fun w' hf => ?_)
      first | rfl | exact congrArg Value.bool (by decide)
 ·skip
  refine op_alloc (z := (.agg #[(.slice none 0 0)])) (us := [(.slice none 0 0)]) (fun _ => by kernel_rfl) rfl rfl hH96 (fun b505 w506 hH507 => ?_)
  refine ops_nil ?_
  refine ⟨trivial, ?_⟩
  refine any_all [1, 5] (by kernel_rfl) rfl ?_
  refine ⟨⟨_, rfl, ?_⟩, ⟨_, rfl, ?_⟩, trivial⟩
  ·skip
   refine ops_y hH507 rfl rfl (yv_load T.one22 rfl (fun _ hw => Heap.cellw hw (n := 9) rfl rfl)) ?_
   refine ops_nil ?_
   refine ⟨trivial, ?_⟩
   obtain ⟨_, _, hb508, _⟩ := (Rd.from ((show Rd encE 5 bp7 B.three _ from hH507.get (n := 10) rfl)) (lo := 1) (by omega)).is
   refine any_takes [2, 3] (by kernel_rfl) trivial _ _ _ (by kernel_rfl) ?_
   refine qs_y rfl rfl (yv_cut_lo T.sl22 rfl rfl ((show Rd encE 5 bp7 B.three _ from hH507.get (n := 10) rfl)).is (by omega)) ?_
   refine qs_y rfl rfl (yv_build (v := (.agg #[(cutv bp7 5 1 B.three.length)])) (us := [(0, (cutv bp7 5 1 B.three.length))]) (fun a ha => by simp [ha.ev (show ev _ (.tmp 87) = some _ from rfl)]) (fun w => by rw [hb508]; kernel_rfl)) ?_
   refine qs_nil ?_
   refine any_all [5] (by kernel_rfl) rfl ?_
   refine ⟨⟨_, rfl, ?_⟩, trivial⟩
   ·skip
    refine ops_y hH507 rfl rfl (yv_load T.one22 rfl (fun _ hw => Heap.cellw hw (n := 9) rfl rfl)) ?_
    refine ops_nil ?_
    refine ⟨trivial, ?_⟩
    obtain ⟨_, _, hb509, _⟩ := (Rd.upto ((show Rd encE 5 bp7 B.three _ from hH507.get (n := 10) rfl)) (hi := 2) (by omega)).is
    refine any_takes [6, 7] (by kernel_rfl) trivial _ _ _ (by kernel_rfl) ?_
    refine qs_y rfl rfl (yv_cut_hi T.sl22 rfl rfl ((show Rd encE 5 bp7 B.three _ from hH507.get (n := 10) rfl)).is (by omega)) ?_
    refine qs_y rfl rfl (yv_build (v := (.agg #[(cutv bp7 5 0 2)])) (us := [(0, (cutv bp7 5 0 2))]) (fun a ha => by simp [ha.ev (show ev _ (.tmp 91) = some _ from rfl)]) (fun w => by rw [hb509]; kernel_rfl)) ?_
    refine qs_nil ?_
    refine any_all [8] (by kernel_rfl) rfl ?_
    refine ⟨⟨_, rfl, ?_⟩, trivial⟩
    ·skip
     refine op_fn rfl rfl rfl hH507 ((by have h := c36 (Rd.from ((show Rd encE 5 bp7 B.three _ from hH507.get (n := 10) rfl)) (lo := 1) (by omega)) (Rd.upto ((show Rd encE 5 bp7 B.three _ from hH507.get (n := 10) rfl)) (hi := 2) (by omega)) (by decide) (by decide) (w := w506); simp only [K.j1] at h; exact h)) (fun u512 w510 lo513 hi514 hH511 hv515 => ?_)
     obtain ⟨bp516, hu, -⟩ := hv515
     subst hu
     have hH517 := Heap.weak (ψ := Rd encE 5 bp516 B.three) hH511 (n := 0) rfl (fun w' h => (by obtain ⟨p', e, h⟩ := h; rw [agg_slice e]; exact h))
     refine ops_nil ?_
     refine ⟨trivial, ?_⟩
     refine any_takes [9, 10, 11] (by kernel_rfl) trivial _ _ _ (by kernel_rfl) ?_
     refine qs_y rfl rfl (yv_move rfl) ?_
     refine qs_y rfl rfl (yv_extract rfl rfl) ?_
     refine qs_y rfl rfl (yv_extract rfl rfl) ?_
     refine qs_nil ?_
     refine any_all [13] (by kernel_rfl) rfl ?_
     refine ⟨⟨_, rfl, ?_⟩, trivial⟩
     ·skip
      refine op_store (n := 1) (j := 0) (us := [bp516]) rfl rfl hH517 rfl T.sz24 rfl rfl rfl (all_one (SliceIs.one1 ((show Rd encE 5 bp516 B.three _ from hH517.get (n := 0) rfl)).is) rfl) (fun w518 hH519 => ?_)
      refine ops_nil ?_
      refine ⟨trivial, ?_⟩
      refine any_takes [14] (by kernel_rfl) trivial _ _ _ (by kernel_rfl) ?_
      refine qs_y rfl rfl (yv_assign rfl) (qs_nil ?_)
      refine any_done (by kernel_rfl) ?_
      refine thn_n (seq (region ?_))
      refine ops_y hH519 rfl rfl (yv_loadA (cs := [bp7]) T.agg24 rfl rfl (fun _ hw => Heap.cellsw hw (n := 10) rfl (k := 0) rfl)) ?_
      refine op_fnV rfl rfl rfl hH519 ((by have h := c38 ((show Rd encE 5 bp7 B.three _ from hH519.get (n := 11) rfl)) (by decide) (hG.now hH519 (n := 12) rfl)  (w := w518); simp only [K.f1] at h; exact h)) (fun w520 hH521 => ?_)
      refine ops_y hH521 rfl rfl (yv_move rfl) (ops_y hH521 rfl rfl (yv_extract rfl rfl) (ops_y hH521 rfl rfl (yv_extract rfl rfl) (ops_y hH521 rfl rfl (yv_assign rfl) (ops_y hH521 rfl rfl (yv_assign rfl) (ops_nil (thn_n (seq (region (ops_y hH521 rfl rfl (yv_move rfl) ?_)))))))))
      refine op_fn rfl rfl rfl hH521 ((by have h := c40 (l := [52, 32, 49, 48, 32, 49, 32, 50, 32, 51, 48, 48, 10, 55, 32, 49, 48, 32, 50, 32, 51, 32, 49, 50, 48, 10, 53, 32, 49, 50, 32, 51, 32, 49, 32, 53, 48, 10, 115, 117, 109, 32, 53, 100, 52, 49, 49, 52, 53, 48, 98, 48, 56, 49, 57, 51, 56, 56, 10]) (hG.now hH521 (n := 12) rfl) (by decide) (w := w520); simp only [K.l1] at h; exact h)) (fun u524 w522 lo525 hi526 hH523 hv527 => ?_)
      obtain ⟨bp528, hu, -⟩ := hv527
      subst hu
      have hH529 := Heap.weak (ψ := Rd encE 5 bp528 B.three) hH523 (n := 0) rfl (fun w' h => (by obtain ⟨p', e, h⟩ := h; rw [agg_slice e]; exact h))
      refine ops_y hH529 rfl rfl (yv_move rfl) (ops_y hH529 rfl rfl (yv_extract rfl rfl) (ops_y hH529 rfl rfl (yv_extract rfl rfl) ?_))
      refine op_alloc (z := (.agg #[(.slice none 0 0)])) (us := [(.slice none 0 0)]) (fun _ => by kernel_rfl) rfl rfl hH529 (fun b530 w531 hH532 => ?_)
      refine op_store (n := 0) (j := 0) (us := [bp528]) rfl rfl hH532 rfl T.sz24 rfl rfl rfl (all_one (SliceIs.one1 ((show Rd encE 5 bp528 B.three _ from hH532.get (n := 1) rfl)).is) rfl) (fun w533 hH534 => ?_)
      refine ops_y hH534 rfl rfl (yv_assign rfl) (ops_nil (thn_n (seq (region ?_))))
      refine op_fnV rfl rfl rfl hH534 ((by have h := c55 (x := 6719674455804711816) (w := w533); simp only [K.n1] at h; exact h)) (fun w535 hH536 => ?_)
      refine ops_y hH536 rfl rfl (yv_cat rfl rfl (by simp only [List.length_cons, List.length_nil, B.hex_length]; omega)) ?_
      refine ops_y hH536 rfl rfl (yv_castS K.sl (yv_cat rfl rfl (by rw [List.length_append]; simp only [List.length_cons, List.length_nil, B.hex_length]; omega))) ?_
      refine op_fn rfl rfl rfl hH536 ((by have h := c40 (l := [115, 117, 109, 32, 53, 100, 52, 49, 49, 52, 53, 48, 98, 48, 56, 49, 57, 51, 56, 56, 10]) (hG.now hH536 (n := 14) rfl) (by decide) (w := w535); simp only [K.l2] at h; exact h)) (fun u539 w537 lo540 hi541 hH538 hv542 => ?_)
      obtain ⟨bp543, hu, -⟩ := hv542
      subst hu
      have hH544 := Heap.weak (ψ := Rd encE 5 bp543 ([] : List En)) hH538 (n := 0) rfl (fun w' h => (by obtain ⟨p', e, h⟩ := h; rw [agg_slice e]; exact h))
      refine ops_y hH544 rfl rfl (yv_move rfl) (ops_y hH544 rfl rfl (yv_extract rfl rfl) (ops_y hH544 rfl rfl (yv_extract rfl rfl) ?_))
      refine op_alloc (z := (.agg #[(.slice none 0 0)])) (us := [(.slice none 0 0)]) (fun _ => by kernel_rfl) rfl rfl hH544 (fun b545 w546 hH547 => ?_)
      refine op_store (n := 0) (j := 0) (us := [bp543]) rfl rfl hH547 rfl T.sz24 rfl rfl rfl (all_one (SliceIs.one1 ((show Rd encE 5 bp543 ([] : List En) _ from hH547.get (n := 1) rfl)).is) rfl) (fun w548 hH549 => ?_)
      refine ops_y hH549 rfl rfl (yv_assign rfl) (ops_nil (thn_n (seq (seq (region (ops_y hH549 rfl rfl (yv_move rfl) ?_))))))
      refine ops_y hH549 rfl rfl (yv_castB rfl (yv_neq rfl rfl)) ?_
      refine ops_y hH549 rfl rfl (yv_move rfl) (guard_yes rfl rfl rfl (ops_y hH549 rfl rfl (yv_move rfl) (guard_yes rfl rfl rfl ?_)))
      refine ops_y hH549 rfl rfl (yv_castB rfl (yv_neq rfl rfl)) ?_
      refine ops_y hH549 rfl rfl (yv_pick_f rfl rfl rfl) ?_
      refine ops_y hH549 rfl rfl (yv_move rfl) (guard_yes rfl rfl rfl (ops_y hH549 rfl rfl (yv_move rfl) (guard_yes rfl rfl rfl ?_)))
      refine ops_y hH549 rfl rfl (yv_castB rfl (yv_neq rfl rfl)) ?_
      refine ops_y hH549 rfl rfl (yv_pick_f rfl rfl rfl) ?_
      refine ops_y hH549 rfl rfl (yv_move rfl) (guard_yes rfl rfl rfl (ops_y hH549 rfl rfl (yv_move rfl) (guard_yes rfl rfl rfl ?_)))
      refine ops_y hH549 rfl rfl (yv_castB rfl (yv_neq rfl rfl)) ?_
      refine ops_y hH549 rfl rfl (yv_pick_f rfl rfl rfl) ?_
      refine ops_y hH549 rfl rfl (yv_move rfl) (guard_yes rfl rfl rfl (ops_y hH549 rfl rfl (yv_move rfl) (guard_yes rfl rfl rfl ?_)))
      refine ops_y hH549 rfl rfl (yv_castB rfl (yv_neq rfl rfl)) ?_
      refine ops_y hH549 rfl rfl (yv_pick_f rfl rfl rfl) ?_
      refine ops_y hH549 rfl rfl (yv_move rfl) (guard_yes rfl rfl rfl (ops_y hH549 rfl rfl (yv_move rfl) (guard_yes rfl rfl rfl ?_)))
      refine ops_y hH549 rfl rfl (yv_castB rfl (yv_neq rfl rfl)) ?_
      refine ops_y hH549 rfl rfl (yv_pick_f rfl rfl rfl) ?_
      refine ops_y hH549 rfl rfl (yv_move rfl) (guard_yes rfl rfl rfl (ops_y hH549 rfl rfl (yv_move rfl) (guard_yes rfl rfl rfl ?_)))
      refine ops_y hH549 rfl rfl (yv_castB rfl (yv_neq rfl rfl)) ?_
      refine ops_y hH549 rfl rfl (yv_pick_f rfl rfl rfl) ?_
      refine ops_y hH549 rfl rfl (yv_move rfl) (guard_yes rfl rfl rfl (ops_y hH549 rfl rfl (yv_move rfl) (guard_yes rfl rfl rfl ?_)))
      refine ops_y hH549 rfl rfl (yv_castB rfl (yv_neq rfl rfl)) ?_
      refine ops_y hH549 rfl rfl (yv_pick_f rfl rfl rfl) ?_
      refine ops_y hH549 rfl rfl (yv_move rfl) (guard_yes rfl rfl rfl (ops_y hH549 rfl rfl (yv_move rfl) (guard_yes rfl rfl rfl ?_)))
      refine ops_y hH549 rfl rfl (yv_castB rfl (yv_neq rfl rfl)) ?_
      refine ops_y hH549 rfl rfl (yv_pick_f rfl rfl rfl) ?_
      refine ops_y hH549 rfl rfl (yv_move rfl) (guard_yes rfl rfl rfl (ops_y hH549 rfl rfl (yv_move rfl) (guard_yes rfl rfl rfl ?_)))
      refine ops_y hH549 rfl rfl (yv_castB rfl (yv_neq rfl rfl)) ?_
      refine ops_y hH549 rfl rfl (yv_pick_f rfl rfl rfl) ?_
      refine ops_y hH549 rfl rfl (yv_move rfl) (guard_yes rfl rfl rfl (ops_y hH549 rfl rfl (yv_move rfl) (guard_yes rfl rfl rfl ?_)))
      refine ops_y hH549 rfl rfl (yv_castB rfl (yv_neq rfl rfl)) ?_
      refine ops_y hH549 rfl rfl (yv_pick_f rfl rfl rfl) ?_
      refine ops_y hH549 rfl rfl (yv_move rfl) (guard_yes rfl rfl rfl (ops_y hH549 rfl rfl (yv_move rfl) (guard_yes rfl rfl rfl ?_)))
      refine ops_y hH549 rfl rfl (yv_castB rfl (yv_neq rfl rfl)) ?_
      refine ops_y hH549 rfl rfl (yv_pick_f rfl rfl rfl) ?_
      refine ops_y hH549 rfl rfl (yv_move rfl) (guard_yes rfl rfl rfl (ops_y hH549 rfl rfl (yv_move rfl) (guard_yes rfl rfl rfl ?_)))
      refine ops_y hH549 rfl rfl (yv_castB rfl (yv_neq rfl rfl)) ?_
      refine ops_y hH549 rfl rfl (yv_pick_f rfl rfl rfl) ?_
      refine ops_y hH549 rfl rfl (yv_move rfl) (guard_yes rfl rfl rfl (ops_y hH549 rfl rfl (yv_move rfl) (guard_yes rfl rfl rfl ?_)))
      refine ops_y hH549 rfl rfl (yv_castB rfl (yv_neq rfl rfl)) ?_
      refine ops_y hH549 rfl rfl (yv_pick_f rfl rfl rfl) ?_
      refine ops_y hH549 rfl rfl (yv_move rfl) (guard_yes rfl rfl rfl (ops_y hH549 rfl rfl (yv_move rfl) (guard_yes rfl rfl rfl ?_)))
      refine ops_y hH549 rfl rfl (yv_castB rfl (yv_neq rfl rfl)) ?_
      refine ops_y hH549 rfl rfl (yv_pick_f rfl rfl rfl) ?_
      refine ops_y hH549 rfl rfl (yv_move rfl) (guard_yes rfl rfl rfl (ops_y hH549 rfl rfl (yv_move rfl) (guard_yes rfl rfl rfl ?_)))
      refine ops_y hH549 rfl rfl (yv_castB rfl (yv_neq rfl rfl)) ?_
      refine ops_y hH549 rfl rfl (yv_pick_f rfl rfl rfl) ?_
      refine ops_nil (thn_n ?_)
      refine cond_f rfl rfl ?_
      refine skip (thn_n (seq (region (ops_y hH549 rfl rfl (yv_move rfl) ?_))))
      refine ops_y hH549 rfl rfl (yv_castB rfl (yv_eql rfl rfl)) ?_
      refine ops_y hH549 rfl rfl (yv_move rfl) (guard_yes rfl rfl rfl (ops_y hH549 rfl rfl (yv_move rfl) (guard_yes rfl rfl rfl ?_)))
      refine ops_y hH549 rfl rfl (yv_castB rfl (yv_eql rfl rfl)) ?_
      refine ops_y hH549 rfl rfl (yv_pick_t rfl rfl rfl) ?_
      refine ops_y hH549 rfl rfl (yv_move rfl) (guard_yes rfl rfl rfl (ops_y hH549 rfl rfl (yv_move rfl) (guard_yes rfl rfl rfl ?_)))
      refine ops_y hH549 rfl rfl (yv_castB rfl (yv_eql rfl rfl)) ?_
      refine ops_y hH549 rfl rfl (yv_pick_t rfl rfl rfl) ?_
      refine ops_y hH549 rfl rfl (yv_move rfl) (guard_yes rfl rfl rfl (ops_y hH549 rfl rfl (yv_move rfl) (guard_yes rfl rfl rfl ?_)))
      refine op_lit (us := [(0, (.int .u64 15774714427196812772)), (1, (.int .u64 4767282599215168177))]) T.el39_encW [(15774714427196812772 : UInt64), (4767282599215168177 : UInt64)] rfl (by decide) rfl (fun a ha => by simp [ha.ev (show ev _ (.const (.int .u64 15774714427196812772)) = some _ from rfl), ha.ev (show ev _ (.const (.int .u64 4767282599215168177)) = some _ from rfl)]) (fun w => by kernel_rfl) hH549 (fun u550 lo552 hi553 w551 hH554 => ?_)
      refine guard_yes rfl rfl rfl ?_
      refine op_fnV rfl rfl rfl hH554 (c53) (fun w555 hH556 => ?_)
      refine guard_yes rfl rfl rfl ?_
      refine op_fnV rfl rfl rfl hH556 (c29 (Heap.rdw T.el39_encW hH556 (n := 14) rfl) (Heap.rdw T.el39_encW hH556 (n := 0) rfl) (by decide) (by decide)) (fun w557 hH558 => ?_)
      refine ops_y hH558 rfl rfl (yv_pick_t rfl rfl rfl) ?_
      refine ops_y hH558 rfl rfl (yv_move rfl) ?_
      have hc559 : ([15774714427196812772, 4767282599215168177] : List UInt64) = [(15774714427196812772 : UInt64), (4767282599215168177 : UInt64)] := rfl
      refine guard_yes rfl rfl (decide_eq_true hc559) ?_
      refine ops_y hH558 rfl rfl (yv_move rfl) ?_
      refine guard_yes rfl rfl (decide_eq_true hc559) ?_
      refine op_lit (us := [(0, (.int .u64 15774714427196812772)), (1, (.int .u64 4767282599215168177))]) T.el39_encW [(15774714427196812772 : UInt64), (4767282599215168177 : UInt64)] rfl (by decide) rfl (fun a ha => by simp [ha.ev (show ev _ (.const (.int .u64 15774714427196812772)) = some _ from rfl), ha.ev (show ev _ (.const (.int .u64 4767282599215168177)) = some _ from rfl)]) (fun w => by kernel_rfl) hH558 (fun u560 lo562 hi563 w561 hH564 => ?_)
      refine guard_yes rfl rfl (decide_eq_true hc559) ?_
      refine op_fnV rfl rfl rfl hH564 (c53) (fun w565 hH566 => ?_)
      refine guard_yes rfl rfl (decide_eq_true hc559) ?_
      refine op_fnV rfl rfl rfl hH566 (c29 (Heap.rdw T.el39_encW hH566 (n := 13) rfl) (Heap.rdw T.el39_encW hH566 (n := 0) rfl) (by decide) (by decide)) (fun w567 hH568 => ?_)
      refine ops_y hH568 rfl rfl (yv_pick_t rfl (decide_eq_true hc559) rfl) ?_
      refine ops_y hH568 rfl rfl (yv_move rfl) ?_
      refine guard_yes rfl rfl (decide_eq_true hc559) ?_
      refine ops_y hH568 rfl rfl (yv_loadA (cs := [bp516]) T.agg24 rfl rfl (fun _ hw => Heap.cellsw hw (n := 7) rfl (k := 0) rfl)) ?_
      refine guard_yes rfl rfl (decide_eq_true hc559) ?_
      refine ops_y hH568 rfl rfl (yv_loadA (cs := [bp7]) T.agg24 rfl rfl (fun _ hw => Heap.cellsw hw (n := 16) rfl (k := 0) rfl)) ?_
      refine guard_yes rfl rfl (decide_eq_true hc559) ?_
      refine op_fnV rfl rfl rfl hH568 (c42 ((show Rd encE 5 bp516 B.three _ from hH568.get (n := 6) rfl)) ((show Rd encE 5 bp7 B.three _ from hH568.get (n := 17) rfl)) (by decide) (by decide)) (fun w569 hH570 => ?_)
      refine ops_y hH570 rfl rfl (yv_pick_t rfl (decide_eq_true hc559) rfl) ?_
      refine ops_y hH570 rfl rfl (yv_move rfl) ?_
      refine guard_yes rfl rfl (decide_eq_true rfl) ?_
      refine ops_y hH570 rfl rfl (yv_loadA (cs := [bp528]) T.agg24 rfl rfl (fun _ hw => Heap.cellsw hw (n := 4) rfl (k := 0) rfl)) ?_
      refine guard_yes rfl rfl (decide_eq_true rfl) ?_
      refine ops_y hH570 rfl rfl (yv_loadA (cs := [bp7]) T.agg24 rfl rfl (fun _ hw => Heap.cellsw hw (n := 16) rfl (k := 0) rfl)) ?_
      refine guard_yes rfl rfl (decide_eq_true rfl) ?_
      refine op_fnV rfl rfl rfl hH570 (c42 ((show Rd encE 5 bp528 B.three _ from hH570.get (n := 5) rfl)) ((show Rd encE 5 bp7 B.three _ from hH570.get (n := 17) rfl)) (by decide) (by decide)) (fun w571 hH572 => ?_)
      refine ops_y hH572 rfl rfl (yv_pick_t rfl (decide_eq_true rfl) rfl) ?_
      refine ops_y hH572 rfl rfl (yv_move rfl) ?_
      refine guard_yes rfl rfl (decide_eq_true rfl) ?_
      refine ops_y hH572 rfl rfl (yv_move rfl) ?_
      refine guard_yes rfl rfl (decide_eq_true rfl) ?_
      refine ops_y hH572 rfl rfl (yv_castB (decide_eq_true rfl) (yv_eqlS rfl rfl)) ?_
      refine ops_y hH572 rfl rfl (yv_pick_t rfl (decide_eq_true rfl) rfl) ?_
      refine ops_y hH572 rfl rfl (yv_assign rfl) (ops_nil (thn_n (ret ?_)))
      have hH573 := (hH572.sub (List.Sublist.cons _ (List.Sublist.cons _ (List.Sublist.cons _ (List.Sublist.cons _ (List.Sublist.cons _ (List.Sublist.cons _ (List.Sublist.cons _ (List.Sublist.cons _ (List.Sublist.cons _ (List.Sublist.cons _ (List.Sublist.cons _ (List.Sublist.cons _ (List.Sublist.cons _ (List.Sublist.cons _ (List.Sublist.cons _ (List.Sublist.cons _ (List.Sublist.cons _ (List.Sublist.cons _ (List.Sublist.refl _))))))))))))))))))))
      refine fin hH573 (fun w' hf => (res1 rfl (show RV _ _ _ (.tmp 0) _ from rfl))) (fun w' hf => ?_)
      first | rfl | exact congrArg Value.bool (by decide)
  ·skip
   refine ops_y hH507 rfl rfl (yv_load T.one22 rfl (fun _ hw => Heap.cellw hw (n := 9) rfl rfl)) ?_
   refine ops_nil ?_
   refine ⟨trivial, ?_⟩
   obtain ⟨_, _, hb574, _⟩ := (Rd.upto ((show Rd encE 5 bp7 B.three _ from hH507.get (n := 10) rfl)) (hi := 2) (by omega)).is
   refine any_takes [6, 7] (by kernel_rfl) trivial _ _ _ (by kernel_rfl) ?_
   refine qs_y rfl rfl (yv_cut_hi T.sl22 rfl rfl ((show Rd encE 5 bp7 B.three _ from hH507.get (n := 10) rfl)).is (by omega)) ?_
   refine qs_y rfl rfl (yv_build (v := (.agg #[(cutv bp7 5 0 2)])) (us := [(0, (cutv bp7 5 0 2))]) (fun a ha => by simp [ha.ev (show ev _ (.tmp 91) = some _ from rfl)]) (fun w => by rw [hb574]; kernel_rfl)) ?_
   refine qs_nil ?_
   refine any_all [1] (by kernel_rfl) rfl ?_
   refine ⟨⟨_, rfl, ?_⟩, trivial⟩
   ·skip
    refine ops_y hH507 rfl rfl (yv_load T.one22 rfl (fun _ hw => Heap.cellw hw (n := 9) rfl rfl)) ?_
    refine ops_nil ?_
    refine ⟨trivial, ?_⟩
    obtain ⟨_, _, hb575, _⟩ := (Rd.from ((show Rd encE 5 bp7 B.three _ from hH507.get (n := 10) rfl)) (lo := 1) (by omega)).is
    refine any_takes [2, 3] (by kernel_rfl) trivial _ _ _ (by kernel_rfl) ?_
    refine qs_y rfl rfl (yv_cut_lo T.sl22 rfl rfl ((show Rd encE 5 bp7 B.three _ from hH507.get (n := 10) rfl)).is (by omega)) ?_
    refine qs_y rfl rfl (yv_build (v := (.agg #[(cutv bp7 5 1 B.three.length)])) (us := [(0, (cutv bp7 5 1 B.three.length))]) (fun a ha => by simp [ha.ev (show ev _ (.tmp 87) = some _ from rfl)]) (fun w => by rw [hb575]; kernel_rfl)) ?_
    refine qs_nil ?_
    refine any_all [8] (by kernel_rfl) rfl ?_
    refine ⟨⟨_, rfl, ?_⟩, trivial⟩
    ·skip
     refine op_fn rfl rfl rfl hH507 ((by have h := c36 (Rd.from ((show Rd encE 5 bp7 B.three _ from hH507.get (n := 10) rfl)) (lo := 1) (by omega)) (Rd.upto ((show Rd encE 5 bp7 B.three _ from hH507.get (n := 10) rfl)) (hi := 2) (by omega)) (by decide) (by decide) (w := w506); simp only [K.j1] at h; exact h)) (fun u578 w576 lo579 hi580 hH577 hv581 => ?_)
     obtain ⟨bp582, hu, -⟩ := hv581
     subst hu
     have hH583 := Heap.weak (ψ := Rd encE 5 bp582 B.three) hH577 (n := 0) rfl (fun w' h => (by obtain ⟨p', e, h⟩ := h; rw [agg_slice e]; exact h))
     refine ops_nil ?_
     refine ⟨trivial, ?_⟩
     refine any_takes [9, 10, 11] (by kernel_rfl) trivial _ _ _ (by kernel_rfl) ?_
     refine qs_y rfl rfl (yv_move rfl) ?_
     refine qs_y rfl rfl (yv_extract rfl rfl) ?_
     refine qs_y rfl rfl (yv_extract rfl rfl) ?_
     refine qs_nil ?_
     refine any_all [13] (by kernel_rfl) rfl ?_
     refine ⟨⟨_, rfl, ?_⟩, trivial⟩
     ·skip
      refine op_store (n := 1) (j := 0) (us := [bp582]) rfl rfl hH583 rfl T.sz24 rfl rfl rfl (all_one (SliceIs.one1 ((show Rd encE 5 bp582 B.three _ from hH583.get (n := 0) rfl)).is) rfl) (fun w584 hH585 => ?_)
      refine ops_nil ?_
      refine ⟨trivial, ?_⟩
      refine any_takes [14] (by kernel_rfl) trivial _ _ _ (by kernel_rfl) ?_
      refine qs_y rfl rfl (yv_assign rfl) (qs_nil ?_)
      refine any_done (by kernel_rfl) ?_
      refine thn_n (seq (region ?_))
      refine ops_y hH585 rfl rfl (yv_loadA (cs := [bp7]) T.agg24 rfl rfl (fun _ hw => Heap.cellsw hw (n := 10) rfl (k := 0) rfl)) ?_
      refine op_fnV rfl rfl rfl hH585 ((by have h := c38 ((show Rd encE 5 bp7 B.three _ from hH585.get (n := 11) rfl)) (by decide) (hG.now hH585 (n := 12) rfl)  (w := w584); simp only [K.f1] at h; exact h)) (fun w586 hH587 => ?_)
      refine ops_y hH587 rfl rfl (yv_move rfl) (ops_y hH587 rfl rfl (yv_extract rfl rfl) (ops_y hH587 rfl rfl (yv_extract rfl rfl) (ops_y hH587 rfl rfl (yv_assign rfl) (ops_y hH587 rfl rfl (yv_assign rfl) (ops_nil (thn_n (seq (region (ops_y hH587 rfl rfl (yv_move rfl) ?_)))))))))
      refine op_fn rfl rfl rfl hH587 ((by have h := c40 (l := [52, 32, 49, 48, 32, 49, 32, 50, 32, 51, 48, 48, 10, 55, 32, 49, 48, 32, 50, 32, 51, 32, 49, 50, 48, 10, 53, 32, 49, 50, 32, 51, 32, 49, 32, 53, 48, 10, 115, 117, 109, 32, 53, 100, 52, 49, 49, 52, 53, 48, 98, 48, 56, 49, 57, 51, 56, 56, 10]) (hG.now hH587 (n := 12) rfl) (by decide) (w := w586); simp only [K.l1] at h; exact h)) (fun u590 w588 lo591 hi592 hH589 hv593 => ?_)
      obtain ⟨bp594, hu, -⟩ := hv593
      subst hu
      have hH595 := Heap.weak (ψ := Rd encE 5 bp594 B.three) hH589 (n := 0) rfl (fun w' h => (by obtain ⟨p', e, h⟩ := h; rw [agg_slice e]; exact h))
      refine ops_y hH595 rfl rfl (yv_move rfl) (ops_y hH595 rfl rfl (yv_extract rfl rfl) (ops_y hH595 rfl rfl (yv_extract rfl rfl) ?_))
      refine op_alloc (z := (.agg #[(.slice none 0 0)])) (us := [(.slice none 0 0)]) (fun _ => by kernel_rfl) rfl rfl hH595 (fun b596 w597 hH598 => ?_)
      refine op_store (n := 0) (j := 0) (us := [bp594]) rfl rfl hH598 rfl T.sz24 rfl rfl rfl (all_one (SliceIs.one1 ((show Rd encE 5 bp594 B.three _ from hH598.get (n := 1) rfl)).is) rfl) (fun w599 hH600 => ?_)
      refine ops_y hH600 rfl rfl (yv_assign rfl) (ops_nil (thn_n (seq (region ?_))))
      refine op_fnV rfl rfl rfl hH600 ((by have h := c55 (x := 6719674455804711816) (w := w599); simp only [K.n1] at h; exact h)) (fun w601 hH602 => ?_)
      refine ops_y hH602 rfl rfl (yv_cat rfl rfl (by simp only [List.length_cons, List.length_nil, B.hex_length]; omega)) ?_
      refine ops_y hH602 rfl rfl (yv_castS K.sl (yv_cat rfl rfl (by rw [List.length_append]; simp only [List.length_cons, List.length_nil, B.hex_length]; omega))) ?_
      refine op_fn rfl rfl rfl hH602 ((by have h := c40 (l := [115, 117, 109, 32, 53, 100, 52, 49, 49, 52, 53, 48, 98, 48, 56, 49, 57, 51, 56, 56, 10]) (hG.now hH602 (n := 14) rfl) (by decide) (w := w601); simp only [K.l2] at h; exact h)) (fun u605 w603 lo606 hi607 hH604 hv608 => ?_)
      obtain ⟨bp609, hu, -⟩ := hv608
      subst hu
      have hH610 := Heap.weak (ψ := Rd encE 5 bp609 ([] : List En)) hH604 (n := 0) rfl (fun w' h => (by obtain ⟨p', e, h⟩ := h; rw [agg_slice e]; exact h))
      refine ops_y hH610 rfl rfl (yv_move rfl) (ops_y hH610 rfl rfl (yv_extract rfl rfl) (ops_y hH610 rfl rfl (yv_extract rfl rfl) ?_))
      refine op_alloc (z := (.agg #[(.slice none 0 0)])) (us := [(.slice none 0 0)]) (fun _ => by kernel_rfl) rfl rfl hH610 (fun b611 w612 hH613 => ?_)
      refine op_store (n := 0) (j := 0) (us := [bp609]) rfl rfl hH613 rfl T.sz24 rfl rfl rfl (all_one (SliceIs.one1 ((show Rd encE 5 bp609 ([] : List En) _ from hH613.get (n := 1) rfl)).is) rfl) (fun w614 hH615 => ?_)
      refine ops_y hH615 rfl rfl (yv_assign rfl) (ops_nil (thn_n (seq (seq (region (ops_y hH615 rfl rfl (yv_move rfl) ?_))))))
      refine ops_y hH615 rfl rfl (yv_castB rfl (yv_neq rfl rfl)) ?_
      refine ops_y hH615 rfl rfl (yv_move rfl) (guard_yes rfl rfl rfl (ops_y hH615 rfl rfl (yv_move rfl) (guard_yes rfl rfl rfl ?_)))
      refine ops_y hH615 rfl rfl (yv_castB rfl (yv_neq rfl rfl)) ?_
      refine ops_y hH615 rfl rfl (yv_pick_f rfl rfl rfl) ?_
      refine ops_y hH615 rfl rfl (yv_move rfl) (guard_yes rfl rfl rfl (ops_y hH615 rfl rfl (yv_move rfl) (guard_yes rfl rfl rfl ?_)))
      refine ops_y hH615 rfl rfl (yv_castB rfl (yv_neq rfl rfl)) ?_
      refine ops_y hH615 rfl rfl (yv_pick_f rfl rfl rfl) ?_
      refine ops_y hH615 rfl rfl (yv_move rfl) (guard_yes rfl rfl rfl (ops_y hH615 rfl rfl (yv_move rfl) (guard_yes rfl rfl rfl ?_)))
      refine ops_y hH615 rfl rfl (yv_castB rfl (yv_neq rfl rfl)) ?_
      refine ops_y hH615 rfl rfl (yv_pick_f rfl rfl rfl) ?_
      refine ops_y hH615 rfl rfl (yv_move rfl) (guard_yes rfl rfl rfl (ops_y hH615 rfl rfl (yv_move rfl) (guard_yes rfl rfl rfl ?_)))
      refine ops_y hH615 rfl rfl (yv_castB rfl (yv_neq rfl rfl)) ?_
      refine ops_y hH615 rfl rfl (yv_pick_f rfl rfl rfl) ?_
      refine ops_y hH615 rfl rfl (yv_move rfl) (guard_yes rfl rfl rfl (ops_y hH615 rfl rfl (yv_move rfl) (guard_yes rfl rfl rfl ?_)))
      refine ops_y hH615 rfl rfl (yv_castB rfl (yv_neq rfl rfl)) ?_
      refine ops_y hH615 rfl rfl (yv_pick_f rfl rfl rfl) ?_
      refine ops_y hH615 rfl rfl (yv_move rfl) (guard_yes rfl rfl rfl (ops_y hH615 rfl rfl (yv_move rfl) (guard_yes rfl rfl rfl ?_)))
      refine ops_y hH615 rfl rfl (yv_castB rfl (yv_neq rfl rfl)) ?_
      refine ops_y hH615 rfl rfl (yv_pick_f rfl rfl rfl) ?_
      refine ops_y hH615 rfl rfl (yv_move rfl) (guard_yes rfl rfl rfl (ops_y hH615 rfl rfl (yv_move rfl) (guard_yes rfl rfl rfl ?_)))
      refine ops_y hH615 rfl rfl (yv_castB rfl (yv_neq rfl rfl)) ?_
      refine ops_y hH615 rfl rfl (yv_pick_f rfl rfl rfl) ?_
      refine ops_y hH615 rfl rfl (yv_move rfl) (guard_yes rfl rfl rfl (ops_y hH615 rfl rfl (yv_move rfl) (guard_yes rfl rfl rfl ?_)))
      refine ops_y hH615 rfl rfl (yv_castB rfl (yv_neq rfl rfl)) ?_
      refine ops_y hH615 rfl rfl (yv_pick_f rfl rfl rfl) ?_
      refine ops_y hH615 rfl rfl (yv_move rfl) (guard_yes rfl rfl rfl (ops_y hH615 rfl rfl (yv_move rfl) (guard_yes rfl rfl rfl ?_)))
      refine ops_y hH615 rfl rfl (yv_castB rfl (yv_neq rfl rfl)) ?_
      refine ops_y hH615 rfl rfl (yv_pick_f rfl rfl rfl) ?_
      refine ops_y hH615 rfl rfl (yv_move rfl) (guard_yes rfl rfl rfl (ops_y hH615 rfl rfl (yv_move rfl) (guard_yes rfl rfl rfl ?_)))
      refine ops_y hH615 rfl rfl (yv_castB rfl (yv_neq rfl rfl)) ?_
      refine ops_y hH615 rfl rfl (yv_pick_f rfl rfl rfl) ?_
      refine ops_y hH615 rfl rfl (yv_move rfl) (guard_yes rfl rfl rfl (ops_y hH615 rfl rfl (yv_move rfl) (guard_yes rfl rfl rfl ?_)))
      refine ops_y hH615 rfl rfl (yv_castB rfl (yv_neq rfl rfl)) ?_
      refine ops_y hH615 rfl rfl (yv_pick_f rfl rfl rfl) ?_
      refine ops_y hH615 rfl rfl (yv_move rfl) (guard_yes rfl rfl rfl (ops_y hH615 rfl rfl (yv_move rfl) (guard_yes rfl rfl rfl ?_)))
      refine ops_y hH615 rfl rfl (yv_castB rfl (yv_neq rfl rfl)) ?_
      refine ops_y hH615 rfl rfl (yv_pick_f rfl rfl rfl) ?_
      refine ops_y hH615 rfl rfl (yv_move rfl) (guard_yes rfl rfl rfl (ops_y hH615 rfl rfl (yv_move rfl) (guard_yes rfl rfl rfl ?_)))
      refine ops_y hH615 rfl rfl (yv_castB rfl (yv_neq rfl rfl)) ?_
      refine ops_y hH615 rfl rfl (yv_pick_f rfl rfl rfl) ?_
      refine ops_y hH615 rfl rfl (yv_move rfl) (guard_yes rfl rfl rfl (ops_y hH615 rfl rfl (yv_move rfl) (guard_yes rfl rfl rfl ?_)))
      refine ops_y hH615 rfl rfl (yv_castB rfl (yv_neq rfl rfl)) ?_
      refine ops_y hH615 rfl rfl (yv_pick_f rfl rfl rfl) ?_
      refine ops_y hH615 rfl rfl (yv_move rfl) (guard_yes rfl rfl rfl (ops_y hH615 rfl rfl (yv_move rfl) (guard_yes rfl rfl rfl ?_)))
      refine ops_y hH615 rfl rfl (yv_castB rfl (yv_neq rfl rfl)) ?_
      refine ops_y hH615 rfl rfl (yv_pick_f rfl rfl rfl) ?_
      refine ops_nil (thn_n ?_)
      refine cond_f rfl rfl ?_
      refine skip (thn_n (seq (region (ops_y hH615 rfl rfl (yv_move rfl) ?_))))
      refine ops_y hH615 rfl rfl (yv_castB rfl (yv_eql rfl rfl)) ?_
      refine ops_y hH615 rfl rfl (yv_move rfl) (guard_yes rfl rfl rfl (ops_y hH615 rfl rfl (yv_move rfl) (guard_yes rfl rfl rfl ?_)))
      refine ops_y hH615 rfl rfl (yv_castB rfl (yv_eql rfl rfl)) ?_
      refine ops_y hH615 rfl rfl (yv_pick_t rfl rfl rfl) ?_
      refine ops_y hH615 rfl rfl (yv_move rfl) (guard_yes rfl rfl rfl (ops_y hH615 rfl rfl (yv_move rfl) (guard_yes rfl rfl rfl ?_)))
      refine ops_y hH615 rfl rfl (yv_castB rfl (yv_eql rfl rfl)) ?_
      refine ops_y hH615 rfl rfl (yv_pick_t rfl rfl rfl) ?_
      refine ops_y hH615 rfl rfl (yv_move rfl) (guard_yes rfl rfl rfl (ops_y hH615 rfl rfl (yv_move rfl) (guard_yes rfl rfl rfl ?_)))
      refine op_lit (us := [(0, (.int .u64 15774714427196812772)), (1, (.int .u64 4767282599215168177))]) T.el39_encW [(15774714427196812772 : UInt64), (4767282599215168177 : UInt64)] rfl (by decide) rfl (fun a ha => by simp [ha.ev (show ev _ (.const (.int .u64 15774714427196812772)) = some _ from rfl), ha.ev (show ev _ (.const (.int .u64 4767282599215168177)) = some _ from rfl)]) (fun w => by kernel_rfl) hH615 (fun u616 lo618 hi619 w617 hH620 => ?_)
      refine guard_yes rfl rfl rfl ?_
      refine op_fnV rfl rfl rfl hH620 (c53) (fun w621 hH622 => ?_)
      refine guard_yes rfl rfl rfl ?_
      refine op_fnV rfl rfl rfl hH622 (c29 (Heap.rdw T.el39_encW hH622 (n := 14) rfl) (Heap.rdw T.el39_encW hH622 (n := 0) rfl) (by decide) (by decide)) (fun w623 hH624 => ?_)
      refine ops_y hH624 rfl rfl (yv_pick_t rfl rfl rfl) ?_
      refine ops_y hH624 rfl rfl (yv_move rfl) ?_
      have hc625 : ([15774714427196812772, 4767282599215168177] : List UInt64) = [(15774714427196812772 : UInt64), (4767282599215168177 : UInt64)] := rfl
      refine guard_yes rfl rfl (decide_eq_true hc625) ?_
      refine ops_y hH624 rfl rfl (yv_move rfl) ?_
      refine guard_yes rfl rfl (decide_eq_true hc625) ?_
      refine op_lit (us := [(0, (.int .u64 15774714427196812772)), (1, (.int .u64 4767282599215168177))]) T.el39_encW [(15774714427196812772 : UInt64), (4767282599215168177 : UInt64)] rfl (by decide) rfl (fun a ha => by simp [ha.ev (show ev _ (.const (.int .u64 15774714427196812772)) = some _ from rfl), ha.ev (show ev _ (.const (.int .u64 4767282599215168177)) = some _ from rfl)]) (fun w => by kernel_rfl) hH624 (fun u626 lo628 hi629 w627 hH630 => ?_)
      refine guard_yes rfl rfl (decide_eq_true hc625) ?_
      refine op_fnV rfl rfl rfl hH630 (c53) (fun w631 hH632 => ?_)
      refine guard_yes rfl rfl (decide_eq_true hc625) ?_
      refine op_fnV rfl rfl rfl hH632 (c29 (Heap.rdw T.el39_encW hH632 (n := 13) rfl) (Heap.rdw T.el39_encW hH632 (n := 0) rfl) (by decide) (by decide)) (fun w633 hH634 => ?_)
      refine ops_y hH634 rfl rfl (yv_pick_t rfl (decide_eq_true hc625) rfl) ?_
      refine ops_y hH634 rfl rfl (yv_move rfl) ?_
      refine guard_yes rfl rfl (decide_eq_true hc625) ?_
      refine ops_y hH634 rfl rfl (yv_loadA (cs := [bp582]) T.agg24 rfl rfl (fun _ hw => Heap.cellsw hw (n := 7) rfl (k := 0) rfl)) ?_
      refine guard_yes rfl rfl (decide_eq_true hc625) ?_
      refine ops_y hH634 rfl rfl (yv_loadA (cs := [bp7]) T.agg24 rfl rfl (fun _ hw => Heap.cellsw hw (n := 16) rfl (k := 0) rfl)) ?_
      refine guard_yes rfl rfl (decide_eq_true hc625) ?_
      refine op_fnV rfl rfl rfl hH634 (c42 ((show Rd encE 5 bp582 B.three _ from hH634.get (n := 6) rfl)) ((show Rd encE 5 bp7 B.three _ from hH634.get (n := 17) rfl)) (by decide) (by decide)) (fun w635 hH636 => ?_)
      refine ops_y hH636 rfl rfl (yv_pick_t rfl (decide_eq_true hc625) rfl) ?_
      refine ops_y hH636 rfl rfl (yv_move rfl) ?_
      refine guard_yes rfl rfl (decide_eq_true rfl) ?_
      refine ops_y hH636 rfl rfl (yv_loadA (cs := [bp594]) T.agg24 rfl rfl (fun _ hw => Heap.cellsw hw (n := 4) rfl (k := 0) rfl)) ?_
      refine guard_yes rfl rfl (decide_eq_true rfl) ?_
      refine ops_y hH636 rfl rfl (yv_loadA (cs := [bp7]) T.agg24 rfl rfl (fun _ hw => Heap.cellsw hw (n := 16) rfl (k := 0) rfl)) ?_
      refine guard_yes rfl rfl (decide_eq_true rfl) ?_
      refine op_fnV rfl rfl rfl hH636 (c42 ((show Rd encE 5 bp594 B.three _ from hH636.get (n := 5) rfl)) ((show Rd encE 5 bp7 B.three _ from hH636.get (n := 17) rfl)) (by decide) (by decide)) (fun w637 hH638 => ?_)
      refine ops_y hH638 rfl rfl (yv_pick_t rfl (decide_eq_true rfl) rfl) ?_
      refine ops_y hH638 rfl rfl (yv_move rfl) ?_
      refine guard_yes rfl rfl (decide_eq_true rfl) ?_
      refine ops_y hH638 rfl rfl (yv_move rfl) ?_
      refine guard_yes rfl rfl (decide_eq_true rfl) ?_
      refine ops_y hH638 rfl rfl (yv_castB (decide_eq_true rfl) (yv_eqlS rfl rfl)) ?_
      refine ops_y hH638 rfl rfl (yv_pick_t rfl (decide_eq_true rfl) rfl) ?_
      refine ops_y hH638 rfl rfl (yv_assign rfl) (ops_nil (thn_n (ret ?_)))
      have hH639 := (hH638.sub (List.Sublist.cons _ (List.Sublist.cons _ (List.Sublist.cons _ (List.Sublist.cons _ (List.Sublist.cons _ (List.Sublist.cons _ (List.Sublist.cons _ (List.Sublist.cons _ (List.Sublist.cons _ (List.Sublist.cons _ (List.Sublist.cons _ (List.Sublist.cons _ (List.Sublist.cons _ (List.Sublist.cons _ (List.Sublist.cons _ (List.Sublist.cons _ (List.Sublist.cons _ (List.Sublist.cons _ (List.Sublist.refl _))))))))))))))))))))
      refine fin hH639 (fun w' hf => (res1 rfl (show RV _ _ _ (.tmp 0) _ from rfl))) (fun w' hf => ?_)
      first | rfl | exact congrArg Value.bool (by decide)
end Go.Fip
