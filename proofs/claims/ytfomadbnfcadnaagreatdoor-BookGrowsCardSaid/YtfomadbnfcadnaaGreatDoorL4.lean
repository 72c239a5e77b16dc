/- Walks of the law, and what it alone needs, by program (wip/tools). -/
import Derived.Test.YtfomadbnfcadnaaGreatDoorMJ
set_option linter.unusedVariables false
set_option linter.unusedSimpArgs false
set_option linter.unusedSectionVars false
set_option linter.unnecessarySimpa false
namespace Go.Fip
open Go.ChangeShapes Go.WideShapes Go.ChangeAt Go.RowKit
section
variable {H : Type} {enc : TypeId × Value → H} {P : Program} {w : World}
theorem trodAll_below (hl : laidOutB P = true) {W W' : World} (hb : Below W.heap.size W W') : ∀ (ts : List TypeId) (vs : List Value) (ds : List (DataW H)) (ps : List MemPlace), (ts.all fun t => P.readableRec t && decide (t < P.types.size)) = true →
    DataW.TrodAll enc P W 0 (fun _ => true) true ts vs ds ps → (∀ x ∈ ps, x.block < W.heap.size) → DataW.TrodAll enc P W' 0 (fun b => decide (b < W.heap.size)) true ts vs ds ps
  | [], vs, ds, ps, _, h, _ => by
    obtain ⟨rfl, rfl, rfl⟩ := trodAll_nil h
    rfl
  | t :: ts, vs, ds, ps, hr, h, hlt => by
    obtain ⟨v, vs, d, ds, p, q, rfl, rfl, rfl, h1, h2⟩ := trodAll_cons h
    simp only [List.all_cons, Bool.and_eq_true, decide_eq_true_eq] at hr
    exact ⟨p, q, Below.trod hl hr.1.1 hr.1.2 h1 hb (fun x hx => hlt x (List.mem_append_left _ hx)), trodAll_below hl hb ts vs ds q (by simpa using hr.2) h2 (fun x hx => hlt x (List.mem_append_right _ hx)), rfl⟩
theorem law_post {f : Func} {s : ChangeSpec} {apart fresh : Bool} {W W' : World} {args : Array Value} {ds : List (DataW H)} {before p : List MemPlace} {tb : TypeId} (hl : laidOutB P = true) (hb : Below W.heap.size W W')
    (hr : (f.params.toList.all fun t => P.readableRec t && decide (t < P.types.size)) = true) (hv : s.vars = []) (hW : DataW.Whole enc P f.params.toList s.vars apart W args.toList ds [] before)
    (hA : DataW.TrodAll enc P W 0 (fun _ => true) true f.params.toList args.toList ds p) (hp : before = p) (hrt : f.resultTypes = #[tb]) (htb : P.underlying tb = some .bool) (hs : s.fn H (ds ++ []) = { results := [.lit (.bool true)], args := ds }) :
    s.post enc P f apart fresh false false W args (.bool true) W' := by
  subst hp
  refine ⟨ds, [], before, [], before, [], hW, ?_, ?_, ?_, Below.frame hb _, fun h => by cases h⟩
  · rw [hs, hrt]; exact trodAll_mk1 (shut_bool htb _)
  · rw [hs]; exact trodAll_below hl hb _ _ _ _ hr hA (fun x hx => by simpa using hW.lt x hx)
  · rw [hs, hv]; rfl
end
end Go.Fip
namespace Go.Fip
open Go.Proofs Go.RowKit
theorem c35 {v : Value} {g : List UInt64} {m n : Int} {o r : UInt64} {w : World} (h0 : Rd encW 1 v g w) (hp : g.length ≤ 1000)  :
  Fn Tryz.prog 35 [(.int .i64 m), (.int .i64 n), v, (.int .u64 (o.toNat : Int)), (.int .u64 (r.toNat : Int))].toArray w (fun u _ => u = .int .i64 (B.cg m n g o r)) := by
 refine fn_of' (args := [(.int .i64 m), (.int .i64 n), v, (.int .u64 (o.toNat : Int)), (.int .u64 (r.toNat : Int))]) Tryz.func35 rfl (ent Tryz.func35 (by kernel_rfl) rfl) rfl rfl (fun hH => ?_)
 refine seq (region (ops_y hH rfl rfl (yv_assign rfl) (ops_nil (thn_n (seq (seq (region (ops_y hH rfl rfl (yv_move rfl) ?_))))))))
 refine ops_y hH rfl rfl (yv_lss rfl rfl) ?_
 refine ops_y hH rfl rfl (yv_move rfl) ?_
 by_cases hc1 : n < 1
 ·skip
  refine guard_no rfl rfl (decide_eq_true hc1) rfl ?_
  refine guard_no rfl rfl (decide_eq_true hc1) rfl ?_
  refine ops_y hH rfl rfl (yv_pick_t rfl (decide_eq_true hc1) rfl) ?_
  refine ops_nil (thn_n ?_)
  refine cond_t rfl rfl ?_
  refine seq (region (ops_y hH rfl rfl (yv_assign rfl) (ops_nil (thn_n (ret (thn_r ?_))))))
  refine fin hH (fun w' hf => (res1 rfl (show RV _ _ _ (.tmp 10) _ from rfl))) (fun w' hf => ?_)
  first | exact congrArg (Value.int .i64) (B.cg1 (by omega)).symm | exact congrArg (Value.int .i64) (B.cg2 (by omega) (by omega)).symm | exact congrArg (Value.int .i64) (B.cg3 (by omega) (by omega) hbad).symm | exact congrArg (Value.int .i64) (B.cg4 (by omega) (by omega) hgood).symm
 ·skip
  refine guard_yes rfl rfl (decide_eq_false hc1) ?_
  refine ops_y hH rfl rfl (yv_move rfl) ?_
  refine guard_yes rfl rfl (decide_eq_false hc1) ?_
  refine ops_y hH rfl rfl (yv_gtr rfl rfl) ?_
  refine ops_y hH rfl rfl (yv_pick_f rfl (decide_eq_false hc1) rfl) ?_
  refine ops_nil (thn_n ?_)
  by_cases hc2 : 24 < n
  ·skip
   refine cond_t rfl (decide_eq_true hc2) ?_
   refine seq (region (ops_y hH rfl rfl (yv_assign rfl) (ops_nil (thn_n (ret (thn_r ?_))))))
   refine fin hH (fun w' hf => (res1 rfl (show RV _ _ _ (.tmp 10) _ from rfl))) (fun w' hf => ?_)
   first | exact congrArg (Value.int .i64) (B.cg1 (by omega)).symm | exact congrArg (Value.int .i64) (B.cg2 (by omega) (by omega)).symm | exact congrArg (Value.int .i64) (B.cg3 (by omega) (by omega) hbad).symm | exact congrArg (Value.int .i64) (B.cg4 (by omega) (by omega) hgood).symm
  ·skip
   refine cond_f rfl (decide_eq_false hc2) ?_
   refine skip (thn_n (seq (seq (region (ops_y hH rfl rfl (yv_move rfl) ?_)))))
   refine ops_y hH rfl rfl (yv_lss rfl rfl) ?_
   refine ops_y hH rfl rfl (yv_move rfl) ?_
   by_cases hc3 : m < 1
   ·skip
    refine guard_no rfl rfl (decide_eq_true hc3) rfl ?_
    refine guard_no rfl rfl (decide_eq_true hc3) rfl ?_
    refine guard_no rfl rfl (decide_eq_true hc3) rfl ?_
    refine ops_y hH rfl rfl (yv_pick_t rfl (decide_eq_true hc3) rfl) ?_
    refine ops_nil (thn_n ?_)
    refine cond_t rfl rfl ?_
    refine seq (region (ops_y hH rfl rfl (yv_assign rfl) (ops_nil (thn_n (ret (thn_r ?_))))))
    refine fin hH (fun w' hf => (res1 rfl (show RV _ _ _ (.tmp 10) _ from rfl))) (fun w' hf => ?_)
    first | exact congrArg (Value.int .i64) (B.cg1 (by omega)).symm | exact congrArg (Value.int .i64) (B.cg2 (by omega) (by omega)).symm | exact congrArg (Value.int .i64) (B.cg3 (by omega) (by omega) hbad).symm | exact congrArg (Value.int .i64) (B.cg4 (by omega) (by omega) hgood).symm
   ·skip
    refine guard_yes rfl rfl (decide_eq_false hc3) ?_
    refine ops_y hH rfl rfl (yv_move rfl) ?_
    refine guard_yes rfl rfl (decide_eq_false hc3) ?_
    refine ops_y hH rfl rfl (yv_move rfl) ?_
    refine guard_yes rfl rfl (decide_eq_false hc3) ?_
    refine ops_y hH rfl rfl (yv_gtr rfl rfl) ?_
    refine ops_y hH rfl rfl (yv_pick_f rfl (decide_eq_false hc3) rfl) ?_
    refine ops_nil (thn_n ?_)
    by_cases hc4 : n < m
    ·skip
     refine cond_t rfl (decide_eq_true hc4) ?_
     refine seq (region (ops_y hH rfl rfl (yv_assign rfl) (ops_nil (thn_n (ret (thn_r ?_))))))
     refine fin hH (fun w' hf => (res1 rfl (show RV _ _ _ (.tmp 10) _ from rfl))) (fun w' hf => ?_)
     first | exact congrArg (Value.int .i64) (B.cg1 (by omega)).symm | exact congrArg (Value.int .i64) (B.cg2 (by omega) (by omega)).symm | exact congrArg (Value.int .i64) (B.cg3 (by omega) (by omega) hbad).symm | exact congrArg (Value.int .i64) (B.cg4 (by omega) (by omega) hgood).symm
    ·skip
     refine cond_f rfl (decide_eq_false hc4) ?_
     refine skip (thn_n (seq (region ?_)))
     refine ops_y hH rfl rfl (yv_cast (show m = (m.toNat : Int) by omega) (yv_move rfl)) ?_
     refine ops_y hH rfl rfl (yv_cast (show n = (n.toNat : Int) by omega) (yv_move rfl)) ?_
     refine ops_y hH rfl rfl (yv_move rfl) (ops_y hH rfl rfl (yv_move rfl) ?_)
     refine op_fnV rfl rfl rfl hH (c80 (m := m.toNat) (n := n.toNat) (p := g) (wh := true) (o := o) (h0.now hH (n := 0) rfl) (by omega) (by omega) (by omega) (by omega)) (fun w5 hH6 => ?_)
     refine ops_y hH6 rfl rfl (yv_move rfl) (ops_y hH6 rfl rfl (yv_extract rfl rfl) (ops_y hH6 rfl rfl (yv_extract rfl rfl) (ops_y hH6 rfl rfl (yv_extract rfl rfl) (ops_y hH6 rfl rfl (yv_assign rfl) (ops_y hH6 rfl rfl (yv_assign rfl) (ops_y hH6 rfl rfl (yv_assign rfl) (ops_nil (thn_n (seq ?_)))))))))
     refine seq (region (ops_y hH6 rfl rfl (yv_move rfl) ?_))
     refine ops_y hH6 rfl rfl (yv_not rfl) ?_
     refine ops_y hH6 rfl rfl (yv_move rfl) ?_
     by_cases hc7 : (!((B.rt m.toNat n.toNat g true o).2.2)) = true
     ·skip
      have hbad : ¬ ((B.rt m.toNat n.toNat g true o).2.2 = true ∧ (B.rt m.toNat n.toNat g true o).1 = o ∧ (B.rt m.toNat n.toNat g true o).2.1 = r) := fun h => by have h2 := hc7; rw [h.1] at h2; cases h2
      refine guard_no rfl rfl hc7 rfl ?_
      refine guard_no rfl rfl hc7 rfl ?_
      refine guard_no rfl rfl hc7 rfl ?_
      refine ops_y hH6 rfl rfl (yv_pick_t rfl hc7 rfl) ?_
      refine ops_y hH6 rfl rfl (yv_move rfl) (guard_no rfl rfl rfl rfl (guard_no rfl rfl rfl rfl (guard_no rfl rfl rfl rfl ?_)))
      refine ops_y hH6 rfl rfl (yv_pick_t rfl rfl rfl) ?_
      refine ops_nil (thn_n ?_)
      refine cond_t rfl rfl ?_
      refine seq (region (ops_y hH6 rfl rfl (yv_assign rfl) (ops_nil (thn_n (ret (thn_r ?_))))))
      refine fin hH6 (fun w' hf => (res1 rfl (show RV _ _ _ (.tmp 10) _ from rfl))) (fun w' hf => ?_)
      first | exact congrArg (Value.int .i64) (B.cg1 (by omega)).symm | exact congrArg (Value.int .i64) (B.cg2 (by omega) (by omega)).symm | exact congrArg (Value.int .i64) (B.cg3 (by omega) (by omega) hbad).symm | exact congrArg (Value.int .i64) (B.cg4 (by omega) (by omega) hgood).symm
     ·skip
      have hok : (B.rt m.toNat n.toNat g true o).2.2 = true := by simpa using (Bool.eq_false_iff.2 hc7)
      refine guard_yes rfl rfl (Bool.eq_false_iff.2 hc7) ?_
      refine ops_y hH6 rfl rfl (yv_move rfl) ?_
      refine guard_yes rfl rfl (Bool.eq_false_iff.2 hc7) ?_
      refine ops_y hH6 rfl rfl (yv_move rfl) ?_
      refine guard_yes rfl rfl (Bool.eq_false_iff.2 hc7) ?_
      refine ops_y hH6 rfl rfl (yv_neq rfl rfl) ?_
      refine ops_y hH6 rfl rfl (yv_pick_f rfl (Bool.eq_false_iff.2 hc7) rfl) ?_
      refine ops_y hH6 rfl rfl (yv_move rfl) ?_
      by_cases hc8 : (((B.rt m.toNat n.toNat g true o).1).toNat : Int) = (o.toNat : Int)
      ·skip
       have hok1 : (B.rt m.toNat n.toNat g true o).1 = o := toNatI.1 (by first | assumption | omega)
       refine guard_yes rfl rfl (not_decide_n hc8) ?_
       refine ops_y hH6 rfl rfl (yv_move rfl) ?_
       refine guard_yes rfl rfl (not_decide_n hc8) ?_
       refine ops_y hH6 rfl rfl (yv_move rfl) ?_
       refine guard_yes rfl rfl (not_decide_n hc8) ?_
       refine ops_y hH6 rfl rfl (yv_neq rfl rfl) ?_
       refine ops_y hH6 rfl rfl (yv_pick_f rfl (not_decide_n hc8) rfl) ?_
       refine ops_nil (thn_n ?_)
       by_cases hc9 : (((B.rt m.toNat n.toNat g true o).2.1).toNat : Int) = (r.toNat : Int)
       ·skip
        have hok2 : (B.rt m.toNat n.toNat g true o).2.1 = r := toNatI.1 (by first | assumption | omega)
        have hgood : ((B.rt m.toNat n.toNat g true o).2.2 = true ∧ (B.rt m.toNat n.toNat g true o).1 = o ∧ (B.rt m.toNat n.toNat g true o).2.1 = r) := ⟨hok, hok1, hok2⟩
        refine cond_f rfl (not_decide_n hc9) ?_
        refine skip (thn_n (seq (region (ops_y hH6 rfl rfl (yv_assign rfl) (ops_nil (thn_n (ret ?_)))))))
        refine fin hH6 (fun w' hf => (res1 rfl (show RV _ _ _ (.tmp 10) _ from rfl))) (fun w' hf => ?_)
        first | exact congrArg (Value.int .i64) (B.cg1 (by omega)).symm | exact congrArg (Value.int .i64) (B.cg2 (by omega) (by omega)).symm | exact congrArg (Value.int .i64) (B.cg3 (by omega) (by omega) hbad).symm | exact congrArg (Value.int .i64) (B.cg4 (by omega) (by omega) hgood).symm
       ·skip
        have hbad : ¬ ((B.rt m.toNat n.toNat g true o).2.2 = true ∧ (B.rt m.toNat n.toNat g true o).1 = o ∧ (B.rt m.toNat n.toNat g true o).2.1 = r) := fun h => absurd (toNatI.2 h.2.2) (by first | assumption | omega)
        refine cond_t rfl (not_decide_t hc9) ?_
        refine seq (region (ops_y hH6 rfl rfl (yv_assign rfl) (ops_nil (thn_n (ret (thn_r ?_))))))
        refine fin hH6 (fun w' hf => (res1 rfl (show RV _ _ _ (.tmp 10) _ from rfl))) (fun w' hf => ?_)
        first | exact congrArg (Value.int .i64) (B.cg1 (by omega)).symm | exact congrArg (Value.int .i64) (B.cg2 (by omega) (by omega)).symm | exact congrArg (Value.int .i64) (B.cg3 (by omega) (by omega) hbad).symm | exact congrArg (Value.int .i64) (B.cg4 (by omega) (by omega) hgood).symm
      ·skip
       have hbad : ¬ ((B.rt m.toNat n.toNat g true o).2.2 = true ∧ (B.rt m.toNat n.toNat g true o).1 = o ∧ (B.rt m.toNat n.toNat g true o).2.1 = r) := fun h => absurd (toNatI.2 h.2.1) (by first | assumption | omega)
       refine guard_no rfl rfl (not_decide_t hc8) rfl ?_
       refine guard_no rfl rfl (not_decide_t hc8) rfl ?_
       refine guard_no rfl rfl (not_decide_t hc8) rfl ?_
       refine ops_y hH6 rfl rfl (yv_pick_t rfl (not_decide_t hc8) rfl) ?_
       refine ops_nil (thn_n ?_)
       refine cond_t rfl rfl ?_
       refine seq (region (ops_y hH6 rfl rfl (yv_assign rfl) (ops_nil (thn_n (ret (thn_r ?_))))))
       refine fin hH6 (fun w' hf => (res1 rfl (show RV _ _ _ (.tmp 10) _ from rfl))) (fun w' hf => ?_)
       first | exact congrArg (Value.int .i64) (B.cg1 (by omega)).symm | exact congrArg (Value.int .i64) (B.cg2 (by omega) (by omega)).symm | exact congrArg (Value.int .i64) (B.cg3 (by omega) (by omega) hbad).symm | exact congrArg (Value.int .i64) (B.cg4 (by omega) (by omega) hgood).symm
end Go.Fip
namespace Go.Fip
open Go.Proofs Go.RowKit
theorem B.gwR_len {l : List En} {m : Int} : (B.gwR l m).1.length ≤ 1000 := by
 by_cases h : B.ck l = 0
 ·by_cases h2 : 1 ≤ m ∧ m ≤ (l.length : Int)
  ·rw [B.gr3 h h2]; have h3 := B.gw_len l.length l m.toNat true rfl (by omega) (by omega); have h4 := (B.ck_iff.1 h).1; show (B.gw l m.toNat true).length ≤ _; omega
  ·rw [B.gr2 h h2]; simp
 ·rw [B.gr1 h]; simp
theorem c6 {v u : Value} {l : List En} {p : List UInt64} {w : World} (h0 : Rd encE 5 v l w) (h1 : Rd encW 1 u p w) (hG : Gl w) {m1 m n : Int} {o r : UInt64}  :
  Fn Tryz.prog 6 [(.agg #[v]), (.int .i64 m1), (.int .i64 m), (.int .i64 n), u, (.int .u64 (o.toNat : Int)), (.int .u64 (r.toNat : Int))].toArray w (fun u _ => u = .bool true) := by
 refine fn_of' (args := [(.agg #[v]), (.int .i64 m1), (.int .i64 m), (.int .i64 n), u, (.int .u64 (o.toNat : Int)), (.int .u64 (r.toNat : Int))]) Tryz.func6 rfl (ent Tryz.func6 (by kernel_rfl) rfl) rfl rfl (fun hH => ?_)
 refine seq (region ?_)
 refine op_box (us := [v]) rfl rfl rfl hH (fun b1 w2 hH3 => ?_)
 refine ops_y hH3 rfl rfl (yv_assign rfl) (ops_nil (thn_n (seq (seq (region ?_)))))
 refine ops_y hH3 rfl rfl (yv_loadA (cs := [v]) T.agg24 rfl rfl (fun _ hw => Heap.cellsw hw (n := 0) rfl (k := 0) rfl)) ?_
 refine op_fnV rfl rfl rfl hH3 (c17 (h0.now hH3 (n := 1) rfl)) (fun w4 hH5 => ?_)
 refine ops_y hH5 rfl rfl (yv_move rfl) ?_
 by_cases hc6 : 30 < (l.length : Int)
 ·skip
  refine guard_no rfl rfl (decide_eq_true hc6) rfl ?_
  refine guard_no rfl rfl (decide_eq_true hc6) rfl ?_
  refine guard_no rfl rfl (decide_eq_true hc6) rfl ?_
  refine ops_y hH5 rfl rfl (yv_pick_t rfl (decide_eq_true hc6) rfl) ?_
  refine ops_nil (thn_n ?_)
  refine cond_t rfl rfl ?_
  refine seq (region ?_)
  refine op_fnV rfl rfl rfl hH5 (c18 (hG.now hH5 (n := 1) rfl)) (fun w7 hH8 => ?_)
  refine ops_y hH8 rfl rfl (yv_assign rfl) (ops_nil (thn_n (ret (thn_r ?_))))
  have hH9 := (hH8.sub (List.Sublist.cons _ (List.Sublist.refl _)))
  refine fin hH9 (fun w' hf => (res1 rfl (show RV _ _ _ (.tmp 14) _ from rfl))) (fun w' hf => ?_)
  rfl
 ·skip
  refine guard_yes rfl rfl (decide_eq_false hc6) ?_
  refine ops_y hH5 rfl rfl (yv_move rfl) ?_
  refine guard_yes rfl rfl (decide_eq_false hc6) ?_
  refine ops_y hH5 rfl rfl (yv_len T.sl39 rfl (h1.now hH5 (n := 1) rfl).is) ?_
  refine guard_yes rfl rfl (decide_eq_false hc6) ?_
  refine ops_y hH5 rfl rfl (yv_gtr rfl rfl) ?_
  refine ops_y hH5 rfl rfl (yv_pick_f rfl (decide_eq_false hc6) rfl) ?_
  refine ops_nil (thn_n ?_)
  by_cases hc10 : 12 < (p.length : Int)
  ·skip
   refine cond_t rfl (decide_eq_true hc10) ?_
   refine seq (region ?_)
   refine op_fnV rfl rfl rfl hH5 (c18 (hG.now hH5 (n := 1) rfl)) (fun w11 hH12 => ?_)
   refine ops_y hH12 rfl rfl (yv_assign rfl) (ops_nil (thn_n (ret (thn_r ?_))))
   have hH13 := (hH12.sub (List.Sublist.cons _ (List.Sublist.refl _)))
   refine fin hH13 (fun w' hf => (res1 rfl (show RV _ _ _ (.tmp 14) _ from rfl))) (fun w' hf => ?_)
   rfl
  ·skip
   refine cond_f rfl (decide_eq_false hc10) ?_
   refine skip (thn_n (seq ?_))
   have hl30 : l.length ≤ 30 := by omega
   have hp12 : p.length ≤ 12 := by omega
   refine region ?_
   refine ops_y hH5 rfl rfl (yv_loadA (cs := [v]) T.agg24 rfl rfl (fun _ hw => Heap.cellsw hw (n := 0) rfl (k := 0) rfl)) ?_
   refine ops_y hH5 rfl rfl (yv_move rfl) ?_
   refine op_fn rfl rfl rfl hH5 (c32 (m := m1) (h0.now hH5 (n := 1) rfl) (by omega) (hG.now hH5 (n := 1) rfl)) (fun u16 w14 lo17 hi18 hH15 hv19 => ?_)
   obtain ⟨p21, hu, -⟩ := hv19
   subst hu
   have hH20 := Heap.tup2 hH15 (n := 0) rfl
   refine ops_y hH20 rfl rfl (yv_move rfl) (ops_y hH20 rfl rfl (yv_extract rfl rfl) (ops_y hH20 rfl rfl (yv_extract rfl rfl) (ops_y hH20 rfl rfl (yv_assign rfl) (ops_y hH20 rfl rfl (yv_assign rfl) (ops_nil (thn_n (seq (region ?_))))))))
   refine ops_y hH20 rfl rfl (yv_loadA (cs := [v]) T.agg24 rfl rfl (fun _ hw => Heap.cellsw hw (n := 1) rfl (k := 0) rfl)) ?_
   refine ops_y hH20 rfl rfl (yv_move rfl) ?_
   refine op_fn rfl rfl rfl hH20 (c33 (m := m1) (h0.now hH20 (n := 2) rfl) (by omega) ) (fun u24 w22 lo25 hi26 hH23 hv27 => ?_)
   obtain ⟨p29, hu, -⟩ := hv27
   subst hu
   have hH28 := Heap.tup2 hH23 (n := 0) rfl
   refine ops_y hH28 rfl rfl (yv_move rfl) (ops_y hH28 rfl rfl (yv_extract rfl rfl) (ops_y hH28 rfl rfl (yv_extract rfl rfl) (ops_y hH28 rfl rfl (yv_assign rfl) (ops_y hH28 rfl rfl (yv_assign rfl) (ops_nil (thn_n (seq (region (ops_y hH28 rfl rfl (yv_move rfl) ?_)))))))))
   refine ops_y hH28 rfl rfl (yv_move rfl) ?_
   refine op_fnV rfl rfl rfl hH28 (c29 (Heap.rdw T.el39_encW hH28 (n := 1) rfl) (Heap.rdw T.el39_encW hH28 (n := 0) rfl) (Nat.le_trans B.gwR_len (by decide)) (Nat.le_trans B.gwR_len (by decide))) (fun w30 hH31 => ?_)
   refine ops_y hH31 rfl rfl (yv_move rfl) ?_
   refine guard_yes rfl rfl (decide_eq_true rfl) ?_
   refine ops_y hH31 rfl rfl (yv_move rfl) ?_
   refine guard_yes rfl rfl (decide_eq_true rfl) ?_
   refine ops_y hH31 rfl rfl (yv_move rfl) ?_
   refine guard_yes rfl rfl (decide_eq_true rfl) ?_
   refine ops_y hH31 rfl rfl (yv_eql rfl rfl) ?_
   refine ops_y hH31 rfl rfl (yv_pick_t rfl (decide_eq_true rfl) rfl) ?_
   refine ops_y hH31 rfl rfl (yv_move rfl) ?_
   refine guard_yes rfl rfl (decide_eq_true rfl) ?_
   refine ops_y hH31 rfl rfl (yv_move rfl) ?_
   refine guard_yes rfl rfl (decide_eq_true rfl) ?_
   refine ops_y hH31 rfl rfl (yv_move rfl) ?_
   refine guard_yes rfl rfl (decide_eq_true rfl) ?_
   refine ops_y hH31 rfl rfl (yv_move rfl) ?_
   refine guard_yes rfl rfl (decide_eq_true rfl) ?_
   refine ops_y hH31 rfl rfl (yv_move rfl) ?_
   refine guard_yes rfl rfl (decide_eq_true rfl) ?_
   refine ops_y hH31 rfl rfl (yv_move rfl) ?_
   refine guard_yes rfl rfl (decide_eq_true rfl) ?_
   refine op_fnV rfl rfl rfl hH31 (c34 (m := m) (n := n) (o := o) (r := r) (hG.now hH31 (n := 3) rfl) (h1.now hH31 (n := 3) rfl) (by omega)) (fun w32 hH33 => ?_)
   refine guard_yes rfl rfl (decide_eq_true rfl) ?_
   refine ops_y hH33 rfl rfl (yv_move rfl) ?_
   refine guard_yes rfl rfl (decide_eq_true rfl) ?_
   refine ops_y hH33 rfl rfl (yv_move rfl) ?_
   refine guard_yes rfl rfl (decide_eq_true rfl) ?_
   refine ops_y hH33 rfl rfl (yv_move rfl) ?_
   refine guard_yes rfl rfl (decide_eq_true rfl) ?_
   refine ops_y hH33 rfl rfl (yv_move rfl) ?_
   refine guard_yes rfl rfl (decide_eq_true rfl) ?_
   refine ops_y hH33 rfl rfl (yv_move rfl) ?_
   refine guard_yes rfl rfl (decide_eq_true rfl) ?_
   refine op_fnV rfl rfl rfl hH33 (c35 (m := m) (n := n) (o := o) (r := r) (h1.now hH33 (n := 3) rfl) (by omega)) (fun w34 hH35 => ?_)
   refine guard_yes rfl rfl (decide_eq_true rfl) ?_
   refine ops_y hH35 rfl rfl (yv_eql rfl rfl) ?_
   refine ops_y hH35 rfl rfl (yv_pick_t rfl (decide_eq_true rfl) rfl) ?_
   refine ops_y hH35 rfl rfl (yv_move rfl) ?_
   refine guard_yes rfl rfl (decide_eq_true rfl) ?_
   refine op_fnV rfl rfl rfl hH35 (c18 (hG.now hH35 (n := 3) rfl)) (fun w36 hH37 => ?_)
   refine ops_y hH37 rfl rfl (yv_pick_t rfl (decide_eq_true rfl) rfl) ?_
   refine ops_y hH37 rfl rfl (yv_assign rfl) (ops_nil (thn_n (ret ?_)))
   have hH38 := (hH37.sub (List.Sublist.cons _ (List.Sublist.cons _ (List.Sublist.cons _ (List.Sublist.refl _)))))
   refine fin hH38 (fun w' hf => (res1 rfl (show RV _ _ _ (.tmp 14) _ from rfl))) (fun w' hf => ?_)
   rfl
end Go.Fip
