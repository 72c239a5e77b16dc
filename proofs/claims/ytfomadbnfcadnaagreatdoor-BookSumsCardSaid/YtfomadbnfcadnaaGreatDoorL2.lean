/- Walks of the law, and what it alone needs, by program (wip/tools). -/
import Derived.Test.YtfomadbnfcadnaaGreatDoorMJ
set_option linter.unusedVariables false
set_option linter.unusedSimpArgs false
set_option linter.unusedSectionVars false
set_option linter.unnecessarySimpa false
namespace Go.Fip
open Go.ChangeShapes Go.WideShapes Go.ChangeAt Go.RowKit
section
variable {H : Type} {enc : TypeId × Value → H} {P : Program} {w : World}
theorem trodAll_below (hl : laidOutB P = true) {W W' : World} (hb : Below W.heap.size W W') : ∀ (ts : List TypeId) (vs : List Value) (ds : List (DataW H)) (ps : List MemPlace), (ts.all fun t => P.readableRec t && decide (t < P.types.size)) = true →
    DataW.TrodAll enc P W 0 (fun _ => true) true ts vs ds ps → (∀ x ∈ ps, x.block < W.heap.size) → DataW.TrodAll enc P W' 0 (fun b => decide (b < W.heap.size)) true ts vs ds ps
  | [], vs, ds, ps, _, h, _ => by
    obtain ⟨rfl, rfl, rfl⟩ := trodAll_nil h
    rfl
  | t :: ts, vs, ds, ps, hr, h, hlt => by
    obtain ⟨v, vs, d, ds, p, q, rfl, rfl, rfl, h1, h2⟩ := trodAll_cons h
    simp only [List.all_cons, Bool.and_eq_true, decide_eq_true_eq] at hr
    exact ⟨p, q, Below.trod hl hr.1.1 hr.1.2 h1 hb (fun x hx => hlt x (List.mem_append_left _ hx)), trodAll_below hl hb ts vs ds q (by simpa using hr.2) h2 (fun x hx => hlt x (List.mem_append_right _ hx)), rfl⟩
theorem law_post {f : Func} {s : ChangeSpec} {apart fresh : Bool} {W W' : World} {args : Array Value} {ds : List (DataW H)} {before p : List MemPlace} {tb : TypeId} (hl : laidOutB P = true) (hb : Below W.heap.size W W')
    (hr : (f.params.toList.all fun t => P.readableRec t && decide (t < P.types.size)) = true) (hv : s.vars = []) (hW : DataW.Whole enc P f.params.toList s.vars apart W args.toList ds [] before)
    (hA : DataW.TrodAll enc P W 0 (fun _ => true) true f.params.toList args.toList ds p) (hp : before = p) (hrt : f.resultTypes = #[tb]) (htb : P.underlying tb = some .bool) (hs : s.fn H (ds ++ []) = { results := [.lit (.bool true)], args := ds }) :
    s.post enc P f apart fresh false false W args (.bool true) W' := by
  subst hp
  refine ⟨ds, [], before, [], before, [], hW, ?_, ?_, ?_, Below.frame hb _, fun h => by cases h⟩
  · rw [hs, hrt]; exact trodAll_mk1 (shut_bool htb _)
  · rw [hs]; exact trodAll_below hl hb _ _ _ _ hr hA (fun x hx => by simpa using hW.lt x hx)
  · rw [hs, hv]; rfl
end
end Go.Fip
namespace Go.Fip
open Go.Proofs Go.RowKit
theorem c4 {v : Value} {l : List En} {w : World} (h0 : Rd encE 5 v l w) (hG : Gl w) {s : List UInt8}  :
  Fn Tryz.prog 4 [(str s), (.agg #[v])].toArray w (fun u _ => u = .bool true) := by
 refine fn_of' (args := [(str s), (.agg #[v])]) Tryz.func4 rfl (ent Tryz.func4 (by kernel_rfl) rfl) rfl rfl (fun hH => ?_)
 refine seq (region ?_)
 refine op_box (us := [v]) rfl rfl rfl hH (fun b1 w2 hH3 => ?_)
 refine ops_y hH3 rfl rfl (yv_assign rfl) (ops_nil (thn_n (seq (seq (region (ops_y hH3 rfl rfl (yv_move rfl) ?_))))))
 refine ops_y hH3 rfl rfl (yv_lenS Tryz.underlying9 rfl) ?_
 refine ops_y hH3 rfl rfl (yv_gtr rfl rfl) ?_
 refine ops_y hH3 rfl rfl (yv_move rfl) ?_
 by_cases hc4 : 1100 < (s.length : Int)
 ·skip
  refine guard_no rfl rfl (decide_eq_true hc4) rfl ?_
  refine guard_no rfl rfl (decide_eq_true hc4) rfl ?_
  refine ops_y hH3 rfl rfl (yv_pick_t rfl (decide_eq_true hc4) rfl) ?_
  refine ops_nil (thn_n ?_)
  refine cond_t rfl rfl ?_
  refine seq (region ?_)
  refine op_fnV rfl rfl rfl hH3 (c18 (hG.now hH3 (n := 1) rfl)) (fun w5 hH6 => ?_)
  refine ops_y hH6 rfl rfl (yv_assign rfl) (ops_nil (thn_n (ret (thn_r ?_))))
  have hH7 := (hH6.sub (List.Sublist.cons _ (List.Sublist.refl _)))
  refine fin hH7 (fun w' hf => (res1 rfl (show RV _ _ _ (.tmp 4) _ from rfl))) (fun w' hf => ?_)
  rfl
 ·skip
  refine guard_yes rfl rfl (decide_eq_false hc4) ?_
  refine ops_y hH3 rfl rfl (yv_loadA (cs := [v]) T.agg24 rfl rfl (fun _ hw => Heap.cellsw hw (n := 0) rfl (k := 0) rfl)) ?_
  refine guard_yes rfl rfl (decide_eq_false hc4) ?_
  refine op_fnV rfl rfl rfl hH3 (c17 (h0.now hH3 (n := 1) rfl)) (fun w8 hH9 => ?_)
  refine ops_y hH9 rfl rfl (yv_pick_f rfl (decide_eq_false hc4) rfl) ?_
  refine ops_nil (thn_n ?_)
  by_cases hc10 : 30 < (l.length : Int)
  ·skip
   refine cond_t rfl (decide_eq_true hc10) ?_
   refine seq (region ?_)
   refine op_fnV rfl rfl rfl hH9 (c18 (hG.now hH9 (n := 1) rfl)) (fun w11 hH12 => ?_)
   refine ops_y hH12 rfl rfl (yv_assign rfl) (ops_nil (thn_n (ret (thn_r ?_))))
   have hH13 := (hH12.sub (List.Sublist.cons _ (List.Sublist.refl _)))
   refine fin hH13 (fun w' hf => (res1 rfl (show RV _ _ _ (.tmp 4) _ from rfl))) (fun w' hf => ?_)
   rfl
  ·skip
   refine cond_f rfl (decide_eq_false hc10) ?_
   refine skip (thn_n (seq ?_))
   have hl30 : l.length ≤ 30 := by omega
   refine region (ops_y hH9 rfl rfl (yv_move rfl) ?_)
   refine op_fnV rfl rfl rfl hH9 (c23 ) (fun w14 hH15 => ?_)
   refine ops_y hH15 rfl rfl (yv_move rfl) (ops_y hH15 rfl rfl (yv_extract rfl rfl) (ops_y hH15 rfl rfl (yv_extract rfl rfl) (ops_y hH15 rfl rfl (yv_assign rfl) (ops_y hH15 rfl rfl (yv_assign rfl) (ops_nil (thn_n (seq (region (ops_y hH15 rfl rfl (yv_move rfl) ?_)))))))))
   refine op_fnV rfl rfl rfl hH15 (c24 ) (fun w16 hH17 => ?_)
   refine ops_y hH17 rfl rfl (yv_move rfl) (ops_y hH17 rfl rfl (yv_extract rfl rfl) (ops_y hH17 rfl rfl (yv_extract rfl rfl) (ops_y hH17 rfl rfl (yv_assign rfl) (ops_y hH17 rfl rfl (yv_assign rfl) (ops_nil (thn_n (seq (region ?_))))))))
   refine ops_y hH17 rfl rfl (yv_loadA (cs := [v]) T.agg24 rfl rfl (fun _ hw => Heap.cellsw hw (n := 0) rfl (k := 0) rfl)) ?_
   refine op_fnV rfl rfl rfl hH17 (c25  (h0.now hH17 (n := 1) rfl) (by omega) (hG.now hH17 (n := 1) rfl)) (fun w18 hH19 => ?_)
   refine ops_y hH19 rfl rfl (yv_move rfl) (ops_y hH19 rfl rfl (yv_extract rfl rfl) (ops_y hH19 rfl rfl (yv_extract rfl rfl) (ops_y hH19 rfl rfl (yv_assign rfl) (ops_y hH19 rfl rfl (yv_assign rfl) (ops_nil (thn_n (seq (region ?_))))))))
   refine ops_y hH19 rfl rfl (yv_loadA (cs := [v]) T.agg24 rfl rfl (fun _ hw => Heap.cellsw hw (n := 0) rfl (k := 0) rfl)) ?_
   refine op_fnV rfl rfl rfl hH19 (c26  (h0.now hH19 (n := 1) rfl) (by omega) ) (fun w20 hH21 => ?_)
   refine ops_y hH21 rfl rfl (yv_move rfl) (ops_y hH21 rfl rfl (yv_extract rfl rfl) (ops_y hH21 rfl rfl (yv_extract rfl rfl) (ops_y hH21 rfl rfl (yv_assign rfl) (ops_y hH21 rfl rfl (yv_assign rfl) (ops_nil (thn_n (seq (region (ops_y hH21 rfl rfl (yv_move rfl) ?_)))))))))
   refine ops_y hH21 rfl rfl (yv_move rfl) ?_
   refine ops_y hH21 rfl rfl (yv_eql rfl rfl) ?_
   refine ops_y hH21 rfl rfl (yv_move rfl) ?_
   refine guard_yes rfl rfl (decide_eq_true rfl) ?_
   refine ops_y hH21 rfl rfl (yv_move rfl) ?_
   refine guard_yes rfl rfl (decide_eq_true rfl) ?_
   refine ops_y hH21 rfl rfl (yv_move rfl) ?_
   refine guard_yes rfl rfl (decide_eq_true rfl) ?_
   refine ops_y hH21 rfl rfl (yv_eql rfl rfl) ?_
   refine ops_y hH21 rfl rfl (yv_pick_t rfl (decide_eq_true rfl) rfl) ?_
   refine ops_y hH21 rfl rfl (yv_move rfl) ?_
   refine guard_yes rfl rfl (decide_eq_true rfl) ?_
   refine ops_y hH21 rfl rfl (yv_move rfl) ?_
   refine guard_yes rfl rfl (decide_eq_true rfl) ?_
   refine ops_y hH21 rfl rfl (yv_move rfl) ?_
   refine guard_yes rfl rfl (decide_eq_true rfl) ?_
   refine ops_y hH21 rfl rfl (yv_eql rfl rfl) ?_
   refine ops_y hH21 rfl rfl (yv_pick_t rfl (decide_eq_true rfl) rfl) ?_
   refine ops_y hH21 rfl rfl (yv_move rfl) ?_
   refine guard_yes rfl rfl (decide_eq_true rfl) ?_
   refine ops_y hH21 rfl rfl (yv_move rfl) ?_
   refine guard_yes rfl rfl (decide_eq_true rfl) ?_
   refine ops_y hH21 rfl rfl (yv_move rfl) ?_
   refine guard_yes rfl rfl (decide_eq_true rfl) ?_
   refine ops_y hH21 rfl rfl (yv_eql rfl rfl) ?_
   refine ops_y hH21 rfl rfl (yv_pick_t rfl (decide_eq_true rfl) rfl) ?_
   refine ops_y hH21 rfl rfl (yv_move rfl) ?_
   refine guard_yes rfl rfl (decide_eq_true rfl) ?_
   refine op_fnV rfl rfl rfl hH21 (c18 (hG.now hH21 (n := 1) rfl)) (fun w22 hH23 => ?_)
   refine ops_y hH23 rfl rfl (yv_pick_t rfl (decide_eq_true rfl) rfl) ?_
   refine ops_y hH23 rfl rfl (yv_assign rfl) (ops_nil (thn_n (ret ?_)))
   have hH24 := (hH23.sub (List.Sublist.cons _ (List.Sublist.refl _)))
   refine fin hH24 (fun w' hf => (res1 rfl (show RV _ _ _ (.tmp 4) _ from rfl))) (fun w' hf => ?_)
   rfl
end Go.Fip
