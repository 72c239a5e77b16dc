/- Walks of the law, and what it alone needs, by program (wip/tools). -/
import Derived.Test.YtfomadbnfcadnaaGreatDoorMJ
set_option linter.unusedVariables false
set_option linter.unusedSimpArgs false
set_option linter.unusedSectionVars false
set_option linter.unnecessarySimpa false
namespace Go.Fip
open Go.ChangeShapes Go.WideShapes Go.ChangeAt Go.RowKit
section
variable {H : Type} {enc : TypeId × Value → H} {P : Program} {w : World}
theorem trodAll_below (hl : laidOutB P = true) {W W' : World} (hb : Below W.heap.size W W') : ∀ (ts : List TypeId) (vs : List Value) (ds : List (DataW H)) (ps : List MemPlace), (ts.all fun t => P.readableRec t && decide (t < P.types.size)) = true →
    DataW.TrodAll enc P W 0 (fun _ => true) true ts vs ds ps → (∀ x ∈ ps, x.block < W.heap.size) → DataW.TrodAll enc P W' 0 (fun b => decide (b < W.heap.size)) true ts vs ds ps
  | [], vs, ds, ps, _, h, _ => by
    obtain ⟨rfl, rfl, rfl⟩ := trodAll_nil h
    rfl
  | t :: ts, vs, ds, ps, hr, h, hlt => by
    obtain ⟨v, vs, d, ds, p, q, rfl, rfl, rfl, h1, h2⟩ := trodAll_cons h
    simp only [List.all_cons, Bool.and_eq_true, decide_eq_true_eq] at hr
    exact ⟨p, q, Below.trod hl hr.1.1 hr.1.2 h1 hb (fun x hx => hlt x (List.mem_append_left _ hx)), trodAll_below hl hb ts vs ds q (by simpa using hr.2) h2 (fun x hx => hlt x (List.mem_append_right _ hx)), rfl⟩
theorem law_post {f : Func} {s : ChangeSpec} {apart fresh : Bool} {W W' : World} {args : Array Value} {ds : List (DataW H)} {before p : List MemPlace} {tb : TypeId} (hl : laidOutB P = true) (hb : Below W.heap.size W W')
    (hr : (f.params.toList.all fun t => P.readableRec t && decide (t < P.types.size)) = true) (hv : s.vars = []) (hW : DataW.Whole enc P f.params.toList s.vars apart W args.toList ds [] before)
    (hA : DataW.TrodAll enc P W 0 (fun _ => true) true f.params.toList args.toList ds p) (hp : before = p) (hrt : f.resultTypes = #[tb]) (htb : P.underlying tb = some .bool) (hs : s.fn H (ds ++ []) = { results := [.lit (.bool true)], args := ds }) :
    s.post enc P f apart fresh false false W args (.bool true) W' := by
  subst hp
  refine ⟨ds, [], before, [], before, [], hW, ?_, ?_, ?_, Below.frame hb _, fun h => by cases h⟩
  · rw [hs, hrt]; exact trodAll_mk1 (shut_bool htb _)
  · rw [hs]; exact trodAll_below hl hb _ _ _ _ hr hA (fun x hx => by simpa using hW.lt x hx)
  · rw [hs, hv]; rfl
end
end Go.Fip
namespace Go.Fip
open Go.Proofs Go.RowKit
theorem c3 {v : Value} {l : List En} {w : World} (h0 : Rd encE 5 v l w) (hG : Gl w) {a d : Int}  :
  Fn Tryz.prog 3 [(.agg #[v]), (.int .i64 a), (.int .i64 d)].toArray w (fun u _ => u = .bool true) := by
 refine fn_of' (args := [(.agg #[v]), (.int .i64 a), (.int .i64 d)]) Tryz.func3 rfl (ent Tryz.func3 (by kernel_rfl) rfl) rfl rfl (fun hH => ?_)
 refine seq (region ?_)
 refine op_box (us := [v]) rfl rfl rfl hH (fun b1 w2 hH3 => ?_)
 refine ops_y hH3 rfl rfl (yv_assign rfl) (ops_nil (thn_n (seq (seq (region ?_)))))
 refine ops_y hH3 rfl rfl (yv_loadA (cs := [v]) T.agg24 rfl rfl (fun _ hw => Heap.cellsw hw (n := 0) rfl (k := 0) rfl)) ?_
 refine op_fnV rfl rfl rfl hH3 (c17 (h0.now hH3 (n := 1) rfl)) (fun w4 hH5 => ?_)
 refine ops_nil (thn_n ?_)
 by_cases hc6 : 30 < (l.length : Int)
 ·skip
  refine cond_t rfl (decide_eq_true hc6) ?_
  refine seq (region ?_)
  refine op_fnV rfl rfl rfl hH5 (c18 (hG.now hH5 (n := 1) rfl)) (fun w7 hH8 => ?_)
  refine ops_y hH8 rfl rfl (yv_assign rfl) (ops_nil (thn_n (ret (thn_r ?_))))
  have hH9 := (hH8.sub (List.Sublist.cons _ (List.Sublist.refl _)))
  refine fin hH9 (fun w' hf => (res1 rfl (show RV _ _ _ (.tmp 6) _ from rfl))) (fun w' hf => ?_)
  rfl
 ·skip
  have hl30 : l.length ≤ 30 := by omega
  refine cond_f rfl (decide_eq_false hc6) ?_
  refine skip (thn_n (seq (region ?_)))
  refine ops_y hH5 rfl rfl (yv_loadA (cs := [v]) T.agg24 rfl rfl (fun _ hw => Heap.cellsw hw (n := 0) rfl (k := 0) rfl)) ?_
  refine ops_y hH5 rfl rfl (yv_move rfl) (ops_y hH5 rfl rfl (yv_move rfl) ?_)
  refine op_fnV rfl rfl rfl hH5 (c19 (a := a) (d := d) (h0.now hH5 (n := 1) rfl) (by omega) (hG.now hH5 (n := 1) rfl)) (fun w10 hH11 => ?_)
  refine ops_y hH11 rfl rfl (yv_move rfl) (ops_y hH11 rfl rfl (yv_extract rfl rfl) (ops_y hH11 rfl rfl (yv_extract rfl rfl) (ops_y hH11 rfl rfl (yv_assign rfl) (ops_y hH11 rfl rfl (yv_assign rfl) (ops_nil (thn_n (seq (region ?_))))))))
  refine ops_y hH11 rfl rfl (yv_loadA (cs := [v]) T.agg24 rfl rfl (fun _ hw => Heap.cellsw hw (n := 0) rfl (k := 0) rfl)) ?_
  refine ops_y hH11 rfl rfl (yv_move rfl) (ops_y hH11 rfl rfl (yv_move rfl) ?_)
  refine op_fnV rfl rfl rfl hH11 (c20 (a := a) (d := d) (h0.now hH11 (n := 1) rfl) (by omega) ) (fun w12 hH13 => ?_)
  refine ops_y hH13 rfl rfl (yv_move rfl) (ops_y hH13 rfl rfl (yv_extract rfl rfl) (ops_y hH13 rfl rfl (yv_extract rfl rfl) (ops_y hH13 rfl rfl (yv_assign rfl) (ops_y hH13 rfl rfl (yv_assign rfl) (ops_nil (thn_n (seq ?_)))))))
  refine region_draw (fun w' => Heap [bx b1 24 [v], base w] w') T.mixed (fun w14 hr15 => ?_)
  have hH16 := hH13.redrawn hr15
  refine any_takes [0, 2] (by kernel_rfl) hH16 _ _ _ (by kernel_rfl) ?_
  refine qs_y rfl rfl (yv_loadA (cs := [v]) T.agg24 rfl rfl (fun _ hw => Heap.cellsw hw (n := 0) rfl (k := 0) rfl)) ?_
  refine qs_y rfl rfl (yv_loadA (cs := [v]) T.agg24 rfl rfl (fun _ hw => Heap.cellsw hw (n := 0) rfl (k := 0) rfl)) ?_
  refine qs_nil ?_
  refine any_all [1] (by kernel_rfl) rfl ?_
  refine ⟨⟨_, rfl, ?_⟩, trivial⟩
  ·skip
   refine op_fnV rfl rfl rfl hH16 (c21  (h0.now hH16 (n := 1) rfl) (by omega) ) (fun w17 hH18 => ?_)
   refine ops_nil ?_
   refine ⟨hH18, ?_⟩
   refine any_all [3] (by kernel_rfl) rfl ?_
   refine ⟨⟨_, rfl, ?_⟩, trivial⟩
   ·skip
    refine op_fnV rfl rfl rfl hH18 (c22  (h0.now hH18 (n := 1) rfl) (by omega) ) (fun w19 hH20 => ?_)
    refine ops_nil ?_
    refine ⟨hH20, ?_⟩
    refine any_takes [4, 5, 6, 7, 8, 9, 10, 11, 12, 13, 14, 15] (by kernel_rfl) hH20 _ _ _ (by kernel_rfl) ?_
    refine qs_y rfl rfl (yv_eql rfl rfl) ?_
    refine qs_y rfl rfl (yv_move rfl) ?_
    refine qs_yes rfl rfl rfl (decide_eq_true rfl) rfl (yv_move rfl) ?_
    refine qs_yes rfl rfl rfl (decide_eq_true rfl) rfl (yv_move rfl) ?_
    refine qs_yes rfl rfl rfl (decide_eq_true rfl) rfl (yv_eql rfl rfl) ?_
    refine qs_y rfl rfl (yv_pick_t rfl (decide_eq_true rfl) rfl) ?_
    refine qs_y rfl rfl (yv_move rfl) ?_
    refine qs_yes rfl rfl rfl (decide_eq_true rfl) rfl (yv_move rfl) ?_
    refine qs_yes rfl rfl rfl (decide_eq_true rfl) rfl (yv_move rfl) ?_
    refine qs_yes rfl rfl rfl (decide_eq_true rfl) rfl (yv_eql rfl rfl) ?_
    refine qs_y rfl rfl (yv_pick_t rfl (decide_eq_true rfl) rfl) ?_
    refine qs_y rfl rfl (yv_move rfl) (qs_nil ?_)
    refine any_all [16] (by kernel_rfl) rfl ?_
    refine ⟨⟨_, rfl, ?_⟩, trivial⟩
    ·skip
     refine guard_yes rfl rfl (decide_eq_true rfl) ?_
     refine op_fnV rfl rfl rfl hH20 (c18 (hG.now hH20 (n := 1) rfl)) (fun w21 hH22 => ?_)
     refine ops_nil ?_
     refine ⟨hH22, ?_⟩
     refine any_takes [17, 18] (by kernel_rfl) hH22 _ _ _ (by kernel_rfl) ?_
     refine qs_y rfl rfl (yv_pick_t rfl (decide_eq_true rfl) rfl) ?_
     refine qs_y rfl rfl (yv_assign rfl) (qs_nil ?_)
     refine any_done (by kernel_rfl) ?_
     refine thn_n (ret ?_)
     have hH23 := (hH22.sub (List.Sublist.cons _ (List.Sublist.refl _)))
     refine fin hH23 (fun w' hf => (res1 rfl (show RV _ _ _ (.tmp 6) _ from rfl))) (fun w' hf => ?_)
     rfl
end Go.Fip
