/- Walks of the law, and what it alone needs, by program (wip/tools). -/
import Derived.Test.YtfomadbnfcadnaaGreatDoorMJ
set_option linter.unusedVariables false
set_option linter.unusedSimpArgs false
set_option linter.unusedSectionVars false
set_option linter.unnecessarySimpa false
namespace Go.Fip
open Go.ChangeShapes Go.WideShapes Go.ChangeAt Go.RowKit
section
variable {H : Type} {enc : TypeId × Value → H} {P : Program} {w : World}
theorem trodAll_below (hl : laidOutB P = true) {W W' : World} (hb : Below W.heap.size W W') : ∀ (ts : List TypeId) (vs : List Value) (ds : List (DataW H)) (ps : List MemPlace), (ts.all fun t => P.readableRec t && decide (t < P.types.size)) = true →
    DataW.TrodAll enc P W 0 (fun _ => true) true ts vs ds ps → (∀ x ∈ ps, x.block < W.heap.size) → DataW.TrodAll enc P W' 0 (fun b => decide (b < W.heap.size)) true ts vs ds ps
  | [], vs, ds, ps, _, h, _ => by
    obtain ⟨rfl, rfl, rfl⟩ := trodAll_nil h
    rfl
  | t :: ts, vs, ds, ps, hr, h, hlt => by
    obtain ⟨v, vs, d, ds, p, q, rfl, rfl, rfl, h1, h2⟩ := trodAll_cons h
    simp only [List.all_cons, Bool.and_eq_true, decide_eq_true_eq] at hr
    exact ⟨p, q, Below.trod hl hr.1.1 hr.1.2 h1 hb (fun x hx => hlt x (List.mem_append_left _ hx)), trodAll_below hl hb ts vs ds q (by simpa using hr.2) h2 (fun x hx => hlt x (List.mem_append_right _ hx)), rfl⟩
theorem law_post {f : Func} {s : ChangeSpec} {apart fresh : Bool} {W W' : World} {args : Array Value} {ds : List (DataW H)} {before p : List MemPlace} {tb : TypeId} (hl : laidOutB P = true) (hb : Below W.heap.size W W')
    (hr : (f.params.toList.all fun t => P.readableRec t && decide (t < P.types.size)) = true) (hv : s.vars = []) (hW : DataW.Whole enc P f.params.toList s.vars apart W args.toList ds [] before)
    (hA : DataW.TrodAll enc P W 0 (fun _ => true) true f.params.toList args.toList ds p) (hp : before = p) (hrt : f.resultTypes = #[tb]) (htb : P.underlying tb = some .bool) (hs : s.fn H (ds ++ []) = { results := [.lit (.bool true)], args := ds }) :
    s.post enc P f apart fresh false false W args (.bool true) W' := by
  subst hp
  refine ⟨ds, [], before, [], before, [], hW, ?_, ?_, ?_, Below.frame hb _, fun h => by cases h⟩
  · rw [hs, hrt]; exact trodAll_mk1 (shut_bool htb _)
  · rw [hs]; exact trodAll_below hl hb _ _ _ _ hr hA (fun x hx => by simpa using hW.lt x hx)
  · rw [hs, hv]; rfl
end
end Go.Fip
namespace Go.Fip
open Go.Proofs Go.RowKit
theorem c49 {v : Value} {l : List En} {w : World} (h0 : Rd encE 5 v l w) {k : Int} (hk : 0 ≤ k ∧ k ≤ (l.length : Int))  :
  Fn Tryz.prog 49 [(.agg #[v]), (.int .i64 k)].toArray w (fun u _ => u = .agg #[(cutv v 5 0 k.toNat)]) := by
 refine fn_of' (args := [(.agg #[v]), (.int .i64 k)]) Tryz.func49 rfl (ent Tryz.func49 (by kernel_rfl) rfl) rfl rfl (fun hH => ?_)
 refine seq (region ?_)
 refine op_box (us := [v]) rfl rfl rfl hH (fun b1 w2 hH3 => ?_)
 refine op_alloc (z := (.agg #[(.slice none 0 0)])) (us := [(.slice none 0 0)]) (fun _ => by kernel_rfl) rfl rfl hH3 (fun b4 w5 hH6 => ?_)
 refine ops_nil (thn_n (seq (region ?_)))
 refine ops_y hH6 rfl rfl (yv_field T.f24_0 rfl) ?_
 refine ops_y hH6 rfl rfl (yv_load T.one22 rfl (fun _ hw => Heap.cellw hw (n := 1) rfl rfl)) ?_
 refine ops_y hH6 rfl rfl (yv_move rfl) ?_
 refine ops_y hH6 rfl rfl (yv_cut_hi T.sl22 rfl rfl (h0.now hH6 (n := 2) rfl).is (by omega)) ?_
 obtain ⟨_, _, hb7, _⟩ := (Rd.upto (h0.now hH6 (n := 2) rfl) (hi := k.toNat) (by omega)).is
 refine ops_y hH6 rfl rfl (yv_build (v := (.agg #[(cutv v 5 0 k.toNat)])) (us := [(0, (cutv v 5 0 k.toNat))]) (fun a ha => by simp [ha.ev (show ev _ (.tmp 8) = some _ from rfl)]) (fun w => by rw [hb7]; kernel_rfl)) ?_
 refine op_store (n := 0) (j := 0) (us := [(cutv v 5 0 k.toNat)]) rfl rfl hH6 rfl T.sz24 rfl rfl rfl (all_one (SliceIs.one1 (Rd.upto (h0.now hH6 (n := 2) rfl) (hi := k.toNat) (by omega)).is) rfl) (fun w8 hH9 => ?_)
 refine ops_nil (thn_n (ret ?_))
 have hH10 := (hH9.sub (List.Sublist.cons_cons _ (List.Sublist.cons _ (List.Sublist.refl _))))
 refine fin (hH10.front (n := 1) rfl) (fun w' hf => (res1 rfl (rvA (cs := [(cutv v 5 0 k.toNat)]) rfl T.agg24 rfl (bx_cells (Heap.bxw hf (n := 1) rfl) (k := 0) rfl)))) (fun w' hf => ?_)
 rfl
end Go.Fip
namespace Go.Fip
open Go.Proofs Go.RowKit
namespace K
theorem k3_0 : B.sumR [] = (14695981039346656037, 0) := by decide +kernel
theorem k4_0 : (((14695981039346656037 : UInt64).toNat : Nat) : Int) = 14695981039346656037 := by decide +kernel
theorem k3_1 : B.sumR [101, 52, 32, 49, 48, 32, 49, 32, 50, 32, 51, 48, 48] = (1731110933544241005, 0) := by decide +kernel
theorem k4_1 : (((1731110933544241005 : UInt64).toNat : Nat) : Int) = 1731110933544241005 := by decide +kernel
theorem k5 : (((15194925396971619381 : UInt64).toNat : Nat) : Int) = 15194925396971619381 := by decide +kernel
theorem k6 : B.rootR (B.three.take 2) = (15194925396971619381, 0) := by decide +kernel
theorem k10 : B.ck B.three = 0 := by decide +kernel
end K
theorem c16 {w : World} (hG : Gl w)  :
  Fn Tryz.prog 16 [].toArray w (fun u _ => u = .bool true) := by
 refine fn_of' (args := []) Tryz.func16 rfl (ent Tryz.func16 (by kernel_rfl) rfl) rfl rfl (fun hH => ?_)
 have ht3 : B.three.length = 3 := rfl
 refine seq (region (ops_y hH rfl rfl (yv_assign rfl) (ops_nil (thn_n (seq (region ?_))))))
 refine op_fn rfl rfl rfl hH (c52) (fun u3 w1 lo4 hi5 hH2 hv6 => ?_)
 obtain ⟨bp7, hu, -⟩ := hv6
 subst hu
 have hH8 := Heap.weak (ψ := Rd encE 5 bp7 B.three) hH2 (n := 0) rfl (fun w' h => (by obtain ⟨p', e, h⟩ := h; rw [agg_slice1 e]; exact h))
 refine op_alloc (z := (.agg #[(.slice none 0 0)])) (us := [(.slice none 0 0)]) (fun _ => by kernel_rfl) rfl rfl hH8 (fun b9 w10 hH11 => ?_)
 refine op_store (n := 0) (j := 0) (us := [bp7]) rfl rfl hH11 rfl T.sz24 rfl rfl rfl (all_one (SliceIs.one1 ((show Rd encE 5 bp7 B.three _ from hH11.get (n := 1) rfl)).is) rfl) (fun w12 hH13 => ?_)
 refine ops_nil (thn_n (seq (region ?_)))
 refine ops_y hH13 rfl rfl (yv_loadA (cs := [bp7]) T.agg24 rfl rfl (fun _ hw => Heap.cellsw hw (n := 0) rfl (k := 0) rfl)) ?_
 refine op_fnV rfl rfl rfl hH13 (c19 (a := 2) (d := 11) ((show Rd encE 5 bp7 B.three _ from hH13.get (n := 1) rfl)) (by omega) (hG.now hH13 (n := 2) rfl)) (fun w14 hH15 => ?_)
 refine ops_y hH15 rfl rfl (yv_move rfl) (ops_y hH15 rfl rfl (yv_extract rfl rfl) (ops_y hH15 rfl rfl (yv_extract rfl rfl) (ops_y hH15 rfl rfl (yv_assign rfl) (ops_y hH15 rfl rfl (yv_assign rfl) (ops_nil (thn_n (seq (region ?_))))))))
 refine ops_y hH15 rfl rfl (yv_loadA (cs := [bp7]) T.agg24 rfl rfl (fun _ hw => Heap.cellsw hw (n := 0) rfl (k := 0) rfl)) ?_
 refine op_fnV rfl rfl rfl hH15 (c19 (a := 3) (d := 9) ((show Rd encE 5 bp7 B.three _ from hH15.get (n := 1) rfl)) (by omega) (hG.now hH15 (n := 2) rfl)) (fun w16 hH17 => ?_)
 refine ops_y hH17 rfl rfl (yv_move rfl) (ops_y hH17 rfl rfl (yv_extract rfl rfl) (ops_y hH17 rfl rfl (yv_extract rfl rfl) (ops_y hH17 rfl rfl (yv_assign rfl) (ops_y hH17 rfl rfl (yv_assign rfl) (ops_nil (thn_n (seq (region ?_))))))))
 refine op_fnV rfl rfl rfl hH17 ((by have h := c23 (l := []) (w := w16); simp only [K.k3_0, K.k4_0] at h; exact h)) (fun w18 hH19 => ?_)
 refine ops_y hH19 rfl rfl (yv_move rfl) (ops_y hH19 rfl rfl (yv_extract rfl rfl) (ops_y hH19 rfl rfl (yv_extract rfl rfl) (ops_y hH19 rfl rfl (yv_assign rfl) (ops_y hH19 rfl rfl (yv_assign rfl) (ops_nil (thn_n (seq (region ?_))))))))
 refine op_fnV rfl rfl rfl hH19 ((by have h := c23 (l := [101, 52, 32, 49, 48, 32, 49, 32, 50, 32, 51, 48, 48]) (w := w18); simp only [K.k3_1, K.k4_1] at h; exact h)) (fun w20 hH21 => ?_)
 refine ops_y hH21 rfl rfl (yv_move rfl) (ops_y hH21 rfl rfl (yv_extract rfl rfl) (ops_y hH21 rfl rfl (yv_extract rfl rfl) (ops_y hH21 rfl rfl (yv_assign rfl) (ops_y hH21 rfl rfl (yv_assign rfl) (ops_nil (thn_n (seq (region ?_))))))))
 refine ops_y hH21 rfl rfl (yv_loadA (cs := [bp7]) T.agg24 rfl rfl (fun _ hw => Heap.cellsw hw (n := 0) rfl (k := 0) rfl)) ?_
 refine op_fnV rfl rfl rfl hH21 (c49 (k := 2) ((show Rd encE 5 bp7 B.three _ from hH21.get (n := 1) rfl)) (by omega)) (fun w22 hH23 => ?_)
 refine op_fnV rfl rfl rfl hH23 ((by have h := c25 (Rd.upto ((show Rd encE 5 bp7 B.three _ from hH23.get (n := 1) rfl)) (hi := 2) (by decide)) (by decide) (hG.now hH23 (n := 2) rfl) (w := w22); simp only [K.k6, K.k5] at h; exact h)) (fun w24 hH25 => ?_)
 refine ops_y hH25 rfl rfl (yv_move rfl) (ops_y hH25 rfl rfl (yv_extract rfl rfl) (ops_y hH25 rfl rfl (yv_extract rfl rfl) (ops_y hH25 rfl rfl (yv_assign rfl) (ops_y hH25 rfl rfl (yv_assign rfl) (ops_nil (thn_n (seq (region ?_))))))))
 refine ops_y hH25 rfl rfl (yv_loadA (cs := [bp7]) T.agg24 rfl rfl (fun _ hw => Heap.cellsw hw (n := 0) rfl (k := 0) rfl)) ?_
 refine op_fn rfl rfl rfl hH25 (c27 (i := 2) ((show Rd encE 5 bp7 B.three _ from hH25.get (n := 1) rfl)) (by omega) (hG.now hH25 (n := 2) rfl)) (fun u28 w26 lo29 hi30 hH27 hv31 => ?_)
 obtain ⟨p33, hu, -⟩ := hv31
 subst hu
 have hH32 := Heap.tup2 hH27 (n := 0) rfl
 refine ops_y hH32 rfl rfl (yv_move rfl) (ops_y hH32 rfl rfl (yv_extract rfl rfl) (ops_y hH32 rfl rfl (yv_extract rfl rfl) (ops_y hH32 rfl rfl (yv_assign rfl) (ops_y hH32 rfl rfl (yv_assign rfl) (ops_nil (thn_n (seq (region ?_))))))))
 refine ops_y hH32 rfl rfl (yv_loadA (cs := [bp7]) T.agg24 rfl rfl (fun _ hw => Heap.cellsw hw (n := 1) rfl (k := 0) rfl)) ?_
 refine op_fn rfl rfl rfl hH32 (c32 (m := 2) ((show Rd encE 5 bp7 B.three _ from hH32.get (n := 2) rfl)) (by omega) (hG.now hH32 (n := 3) rfl)) (fun u36 w34 lo37 hi38 hH35 hv39 => ?_)
 obtain ⟨p41, hu, -⟩ := hv39
 subst hu
 have hH40 := Heap.tup2 hH35 (n := 0) rfl
 refine ops_y hH40 rfl rfl (yv_move rfl) (ops_y hH40 rfl rfl (yv_extract rfl rfl) (ops_y hH40 rfl rfl (yv_extract rfl rfl) (ops_y hH40 rfl rfl (yv_assign rfl) (ops_y hH40 rfl rfl (yv_assign rfl) (ops_nil (thn_n (seq (region ?_))))))))
 refine ops_y hH40 rfl rfl (yv_loadA (cs := [bp7]) T.agg24 rfl rfl (fun _ hw => Heap.cellsw hw (n := 2) rfl (k := 0) rfl)) ?_
 refine op_fn rfl rfl rfl hH40 (c32 (m := 3) ((show Rd encE 5 bp7 B.three _ from hH40.get (n := 3) rfl)) (by omega) (hG.now hH40 (n := 4) rfl)) (fun u44 w42 lo45 hi46 hH43 hv47 => ?_)
 obtain ⟨p49, hu, -⟩ := hv47
 subst hu
 have hH48 := Heap.tup2 hH43 (n := 0) rfl
 refine ops_y hH48 rfl rfl (yv_move rfl) (ops_y hH48 rfl rfl (yv_extract rfl rfl) (ops_y hH48 rfl rfl (yv_extract rfl rfl) (ops_y hH48 rfl rfl (yv_assign rfl) (ops_y hH48 rfl rfl (yv_assign rfl) (ops_nil (thn_n (seq (region (ops_y hH48 rfl rfl (yv_move rfl) ?_)))))))))
 refine ops_y hH48 rfl rfl (yv_eql rfl rfl) ?_
 refine ops_y hH48 rfl rfl (yv_move rfl) ?_
 have hc50 : ((B.balR B.three 2 11).2) = 0 := by decide +kernel
 refine guard_yes rfl rfl (decide_eq_true hc50) ?_
 refine ops_y hH48 rfl rfl (yv_move rfl) ?_
 refine guard_yes rfl rfl (decide_eq_true hc50) ?_
 refine ops_y hH48 rfl rfl (yv_eql rfl rfl) ?_
 refine ops_y hH48 rfl rfl (yv_pick_t rfl (decide_eq_true hc50) rfl) ?_
 refine ops_y hH48 rfl rfl (yv_move rfl) ?_
 have hc51 : ((B.balR B.three 2 11).1) = 180 := by decide +kernel
 refine guard_yes rfl rfl (decide_eq_true hc51) ?_
 refine ops_y hH48 rfl rfl (yv_move rfl) ?_
 refine guard_yes rfl rfl (decide_eq_true hc51) ?_
 refine ops_y hH48 rfl rfl (yv_eql rfl rfl) ?_
 refine ops_y hH48 rfl rfl (yv_pick_t rfl (decide_eq_true hc51) rfl) ?_
 refine ops_y hH48 rfl rfl (yv_move rfl) ?_
 have hc52 : ((B.balR B.three 3 9).2) = 0 := by decide +kernel
 refine guard_yes rfl rfl (decide_eq_true hc52) ?_
 refine ops_y hH48 rfl rfl (yv_move rfl) ?_
 refine guard_yes rfl rfl (decide_eq_true hc52) ?_
 refine ops_y hH48 rfl rfl (yv_eql rfl rfl) ?_
 refine ops_y hH48 rfl rfl (yv_pick_t rfl (decide_eq_true hc52) rfl) ?_
 refine ops_y hH48 rfl rfl (yv_move rfl) ?_
 have hc53 : ((B.balR B.three 3 9).1) = 0 := by decide +kernel
 refine guard_yes rfl rfl (decide_eq_true hc53) ?_
 refine ops_y hH48 rfl rfl (yv_move rfl) ?_
 refine guard_yes rfl rfl (decide_eq_true hc53) ?_
 refine ops_y hH48 rfl rfl (yv_castB rfl (yv_eql rfl rfl)) ?_
 refine ops_y hH48 rfl rfl (yv_pick_t rfl (decide_eq_true hc53) rfl) ?_
 refine ops_y hH48 rfl rfl (yv_move rfl) (guard_yes rfl rfl rfl (ops_y hH48 rfl rfl (yv_move rfl) (guard_yes rfl rfl rfl ?_)))
 refine ops_y hH48 rfl rfl (yv_castB rfl (yv_eql rfl rfl)) ?_
 refine ops_y hH48 rfl rfl (yv_pick_t rfl rfl rfl) ?_
 refine ops_y hH48 rfl rfl (yv_move rfl) (guard_yes rfl rfl rfl (ops_y hH48 rfl rfl (yv_move rfl) (guard_yes rfl rfl rfl ?_)))
 refine ops_y hH48 rfl rfl (yv_castB rfl (yv_eql rfl rfl)) ?_
 refine ops_y hH48 rfl rfl (yv_pick_t rfl rfl rfl) ?_
 refine ops_y hH48 rfl rfl (yv_move rfl) (guard_yes rfl rfl rfl (ops_y hH48 rfl rfl (yv_move rfl) (guard_yes rfl rfl rfl ?_)))
 refine ops_y hH48 rfl rfl (yv_castB rfl (yv_eql rfl rfl)) ?_
 refine ops_y hH48 rfl rfl (yv_pick_t rfl rfl rfl) ?_
 refine ops_y hH48 rfl rfl (yv_move rfl) (guard_yes rfl rfl rfl (ops_y hH48 rfl rfl (yv_move rfl) (guard_yes rfl rfl rfl ?_)))
 refine ops_y hH48 rfl rfl (yv_castB rfl (yv_eql rfl rfl)) ?_
 refine ops_y hH48 rfl rfl (yv_pick_t rfl rfl rfl) ?_
 refine ops_y hH48 rfl rfl (yv_move rfl) (guard_yes rfl rfl rfl (ops_y hH48 rfl rfl (yv_move rfl) (guard_yes rfl rfl rfl ?_)))
 refine ops_y hH48 rfl rfl (yv_castB rfl (yv_eql rfl rfl)) ?_
 refine ops_y hH48 rfl rfl (yv_pick_t rfl rfl rfl) ?_
 refine ops_y hH48 rfl rfl (yv_move rfl) (guard_yes rfl rfl rfl (ops_y hH48 rfl rfl (yv_move rfl) (guard_yes rfl rfl rfl ?_)))
 refine ops_y hH48 rfl rfl (yv_eql rfl rfl) ?_
 refine ops_y hH48 rfl rfl (yv_pick_t rfl rfl rfl) ?_
 refine ops_y hH48 rfl rfl (yv_move rfl) ?_
 have hc54 : ((B.pathR B.three 2).2) = 0 := by decide +kernel
 refine guard_yes rfl rfl (decide_eq_true hc54) ?_
 refine ops_y hH48 rfl rfl (yv_move rfl) ?_
 refine guard_yes rfl rfl (decide_eq_true hc54) ?_
 refine op_lit (us := [(0, (.int .u64 15194925396971619381))]) T.el39_encW [(15194925396971619381 : UInt64)] rfl (by decide) rfl (fun a ha => by simp [ha.ev (show ev _ (.const (.int .u64 15194925396971619381)) = some _ from rfl)]) (fun w => by kernel_rfl) hH48 (fun u55 lo57 hi58 w56 hH59 => ?_)
 refine guard_yes rfl rfl (decide_eq_true hc54) ?_
 refine op_fnV rfl rfl rfl hH59 (c53) (fun w60 hH61 => ?_)
 refine guard_yes rfl rfl (decide_eq_true hc54) ?_
 refine op_fnV rfl rfl rfl hH61 (c29 (Heap.rdw T.el39_encW hH61 (n := 3) rfl) (Heap.rdw T.el39_encW hH61 (n := 0) rfl) (by decide) (by decide)) (fun w62 hH63 => ?_)
 refine ops_y hH63 rfl rfl (yv_pick_t rfl (decide_eq_true hc54) rfl) ?_
 refine ops_y hH63 rfl rfl (yv_move rfl) ?_
 have hc64 : ((B.pathR B.three 2).1) = [(15194925396971619381 : UInt64)] := by decide +kernel
 refine guard_yes rfl rfl (decide_eq_true hc64) ?_
 refine ops_y hH63 rfl rfl (yv_move rfl) ?_
 refine guard_yes rfl rfl (decide_eq_true hc64) ?_
 refine ops_y hH63 rfl rfl (yv_eql rfl rfl) ?_
 refine ops_y hH63 rfl rfl (yv_pick_t rfl (decide_eq_true hc64) rfl) ?_
 refine ops_y hH63 rfl rfl (yv_move rfl) ?_
 have hc65 : ((B.gwR B.three 2).2) = 0 := by decide +kernel
 refine guard_yes rfl rfl (decide_eq_true hc65) ?_
 refine ops_y hH63 rfl rfl (yv_move rfl) ?_
 refine guard_yes rfl rfl (decide_eq_true hc65) ?_
 refine op_lit (us := [(0, (.int .u64 4767282599215168177))]) T.el39_encW [(4767282599215168177 : UInt64)] rfl (by decide) rfl (fun a ha => by simp [ha.ev (show ev _ (.const (.int .u64 4767282599215168177)) = some _ from rfl)]) (fun w => by kernel_rfl) hH63 (fun u66 lo68 hi69 w67 hH70 => ?_)
 refine guard_yes rfl rfl (decide_eq_true hc65) ?_
 refine op_fnV rfl rfl rfl hH70 (c53) (fun w71 hH72 => ?_)
 refine guard_yes rfl rfl (decide_eq_true hc65) ?_
 refine op_fnV rfl rfl rfl hH72 (c29 (Heap.rdw T.el39_encW hH72 (n := 3) rfl) (Heap.rdw T.el39_encW hH72 (n := 0) rfl) (by decide) (by decide)) (fun w73 hH74 => ?_)
 refine ops_y hH74 rfl rfl (yv_pick_t rfl (decide_eq_true hc65) rfl) ?_
 refine ops_y hH74 rfl rfl (yv_move rfl) ?_
 have hc75 : ((B.gwR B.three 2).1) = [(4767282599215168177 : UInt64)] := by decide +kernel
 refine guard_yes rfl rfl (decide_eq_true hc75) ?_
 refine ops_y hH74 rfl rfl (yv_move rfl) ?_
 refine guard_yes rfl rfl (decide_eq_true hc75) ?_
 refine ops_y hH74 rfl rfl (yv_eql rfl rfl) ?_
 refine ops_y hH74 rfl rfl (yv_pick_t rfl (decide_eq_true hc75) rfl) ?_
 refine ops_y hH74 rfl rfl (yv_move rfl) ?_
 have hc76 : ((B.gwR B.three 3).2) = 0 := by decide +kernel
 refine guard_yes rfl rfl (decide_eq_true hc76) ?_
 refine ops_y hH74 rfl rfl (yv_move rfl) ?_
 refine guard_yes rfl rfl (decide_eq_true hc76) ?_
 refine ops_y hH74 rfl rfl (yv_len T.sl39 rfl (Heap.rdw T.el39_encW hH74 (n := 2) rfl).is) ?_
 refine guard_yes rfl rfl (decide_eq_true hc76) ?_
 refine ops_y hH74 rfl rfl (yv_eql rfl rfl) ?_
 refine ops_y hH74 rfl rfl (yv_pick_t rfl (decide_eq_true hc76) rfl) ?_
 refine ops_y hH74 rfl rfl (yv_move rfl) ?_
 have hc77 : (((B.gwR B.three 3).1).length : Int) = 0 := by decide +kernel
 refine guard_yes rfl rfl (decide_eq_true hc77) ?_
 refine ops_y hH74 rfl rfl (yv_loadA (cs := [bp7]) T.agg24 rfl rfl (fun _ hw => Heap.cellsw hw (n := 5) rfl (k := 0) rfl)) ?_
 refine guard_yes rfl rfl (decide_eq_true hc77) ?_
 refine op_fnV rfl rfl rfl hH74 ((by have h := c21 ((show Rd encE 5 bp7 B.three _ from hH74.get (n := 6) rfl)) (by decide) (w := w73); simp only [K.k10] at h; exact h)) (fun w78 hH79 => ?_)
 refine guard_yes rfl rfl (decide_eq_true hc77) ?_
 refine ops_y hH79 rfl rfl (yv_castB rfl (yv_eql rfl rfl)) ?_
 refine ops_y hH79 rfl rfl (yv_pick_t rfl (decide_eq_true hc77) rfl) ?_
 refine ops_y hH79 rfl rfl (yv_move rfl) (guard_yes rfl rfl rfl ?_)
 refine op_fnV rfl rfl rfl hH79 (c18 (hG.now hH79 (n := 7) rfl)) (fun w80 hH81 => ?_)
 refine ops_y hH81 rfl rfl (yv_pick_t rfl rfl rfl) ?_
 refine ops_y hH81 rfl rfl (yv_assign rfl) (ops_nil (thn_n (ret ?_)))
 have hH82 := (hH81.sub (List.Sublist.cons _ (List.Sublist.cons _ (List.Sublist.cons _ (List.Sublist.cons _ (List.Sublist.cons _ (List.Sublist.cons _ (List.Sublist.cons _ (List.Sublist.refl _)))))))))
 refine fin hH82 (fun w' hf => (res1 rfl (show RV _ _ _ (.tmp 0) _ from rfl))) (fun w' hf => ?_)
 first | rfl | exact congrArg Value.bool (by decide)
end Go.Fip
