/- Walks of the law, and what it alone needs, by program (wip/tools). -/
import Derived.Test.YtfomadbnfcadnaaGreatDoorMJ
set_option linter.unusedVariables false
set_option linter.unusedSimpArgs false
set_option linter.unusedSectionVars false
set_option linter.unnecessarySimpa false
namespace Go.Fip
open Go.ChangeShapes Go.WideShapes Go.ChangeAt Go.RowKit
section
variable {H : Type} {enc : TypeId × Value → H} {P : Program} {w : World}
theorem trodAll_below (hl : laidOutB P = true) {W W' : World} (hb : Below W.heap.size W W') : ∀ (ts : List TypeId) (vs : List Value) (ds : List (DataW H)) (ps : List MemPlace), (ts.all fun t => P.readableRec t && decide (t < P.types.size)) = true →
    DataW.TrodAll enc P W 0 (fun _ => true) true ts vs ds ps → (∀ x ∈ ps, x.block < W.heap.size) → DataW.TrodAll enc P W' 0 (fun b => decide (b < W.heap.size)) true ts vs ds ps
  | [], vs, ds, ps, _, h, _ => by
    obtain ⟨rfl, rfl, rfl⟩ := trodAll_nil h
    rfl
  | t :: ts, vs, ds, ps, hr, h, hlt => by
    obtain ⟨v, vs, d, ds, p, q, rfl, rfl, rfl, h1, h2⟩ := trodAll_cons h
    simp only [List.all_cons, Bool.and_eq_true, decide_eq_true_eq] at hr
    exact ⟨p, q, Below.trod hl hr.1.1 hr.1.2 h1 hb (fun x hx => hlt x (List.mem_append_left _ hx)), trodAll_below hl hb ts vs ds q (by simpa using hr.2) h2 (fun x hx => hlt x (List.mem_append_right _ hx)), rfl⟩
theorem law_post {f : Func} {s : ChangeSpec} {apart fresh : Bool} {W W' : World} {args : Array Value} {ds : List (DataW H)} {before p : List MemPlace} {tb : TypeId} (hl : laidOutB P = true) (hb : Below W.heap.size W W')
    (hr : (f.params.toList.all fun t => P.readableRec t && decide (t < P.types.size)) = true) (hv : s.vars = []) (hW : DataW.Whole enc P f.params.toList s.vars apart W args.toList ds [] before)
    (hA : DataW.TrodAll enc P W 0 (fun _ => true) true f.params.toList args.toList ds p) (hp : before = p) (hrt : f.resultTypes = #[tb]) (htb : P.underlying tb = some .bool) (hs : s.fn H (ds ++ []) = { results := [.lit (.bool true)], args := ds }) :
    s.post enc P f apart fresh false false W args (.bool true) W' := by
  subst hp
  refine ⟨ds, [], before, [], before, [], hW, ?_, ?_, ?_, Below.frame hb _, fun h => by cases h⟩
  · rw [hs, hrt]; exact trodAll_mk1 (shut_bool htb _)
  · rw [hs]; exact trodAll_below hl hb _ _ _ _ hr hA (fun x hx => by simpa using hW.lt x hx)
  · rw [hs, hv]; rfl
end
end Go.Fip
namespace Go.Fip
open Go.Proofs Go.RowKit
theorem B.pathR_len {l : List En} {i : Int} : (B.pathR l i).1.length ≤ 1000 := by
 by_cases h : B.ck l = 0
 ·by_cases h2 : 0 ≤ i ∧ i < (l.length : Int)
  ·rw [B.pa3 h h2]; have h3 := B.path_len (l := l) (i := i.toNat); have h4 := (B.ck_iff.1 h).1; show (B.path l i.toNat).length ≤ _; omega
  ·rw [B.pa2 h h2]; simp
 ·rw [B.pa1 h]; simp
theorem c5 {v u : Value} {l : List En} {p : List UInt64} {w : World} (h0 : Rd encE 5 v l w) (h1 : Rd encW 1 u p w) (hG : Gl w) {i i2 n : Int} {e : En} {r : UInt64}  :
  Fn Tryz.prog 5 [(.agg #[v]), (.int .i64 i), (.agg #[(.int .i64 e.n), (.int .i64 e.d), (.int .i64 e.f), (.int .i64 e.t), (.int .i64 e.a)]), (.int .i64 i2), (.int .i64 n), u, (.int .u64 (r.toNat : Int))].toArray w (fun u _ => u = .bool true) := by
 refine fn_of' (args := [(.agg #[v]), (.int .i64 i), (.agg #[(.int .i64 e.n), (.int .i64 e.d), (.int .i64 e.f), (.int .i64 e.t), (.int .i64 e.a)]), (.int .i64 i2), (.int .i64 n), u, (.int .u64 (r.toNat : Int))]) Tryz.func5 rfl (ent Tryz.func5 (by kernel_rfl) rfl) rfl rfl (fun hH => ?_)
 refine seq (region ?_)
 refine op_box (us := [v]) rfl rfl rfl hH (fun b1 w2 hH3 => ?_)
 refine op_box (us := [(.int .i64 e.n), (.int .i64 e.d), (.int .i64 e.f), (.int .i64 e.t), (.int .i64 e.a)]) rfl rfl rfl hH3 (fun b4 w5 hH6 => ?_)
 refine ops_y hH6 rfl rfl (yv_assign rfl) (ops_nil (thn_n (seq (seq (region ?_)))))
 refine ops_y hH6 rfl rfl (yv_loadA (cs := [v]) T.agg24 rfl rfl (fun _ hw => Heap.cellsw hw (n := 1) rfl (k := 0) rfl)) ?_
 refine op_fnV rfl rfl rfl hH6 (c17 (h0.now hH6 (n := 2) rfl)) (fun w7 hH8 => ?_)
 refine ops_y hH8 rfl rfl (yv_move rfl) ?_
 by_cases hc9 : 30 < (l.length : Int)
 ·skip
  refine guard_no rfl rfl (decide_eq_true hc9) rfl ?_
  refine guard_no rfl rfl (decide_eq_true hc9) rfl ?_
  refine guard_no rfl rfl (decide_eq_true hc9) rfl ?_
  refine ops_y hH8 rfl rfl (yv_pick_t rfl (decide_eq_true hc9) rfl) ?_
  refine ops_nil (thn_n ?_)
  refine cond_t rfl rfl ?_
  refine seq (region ?_)
  refine op_fnV rfl rfl rfl hH8 (c18 (hG.now hH8 (n := 2) rfl)) (fun w10 hH11 => ?_)
  refine ops_y hH11 rfl rfl (yv_assign rfl) (ops_nil (thn_n (ret (thn_r ?_))))
  have hH12 := (hH11.sub (List.Sublist.cons _ (List.Sublist.cons _ (List.Sublist.refl _))))
  refine fin hH12 (fun w' hf => (res1 rfl (show RV _ _ _ (.tmp 14) _ from rfl))) (fun w' hf => ?_)
  rfl
 ·skip
  refine guard_yes rfl rfl (decide_eq_false hc9) ?_
  refine ops_y hH8 rfl rfl (yv_move rfl) ?_
  refine guard_yes rfl rfl (decide_eq_false hc9) ?_
  refine ops_y hH8 rfl rfl (yv_len T.sl39 rfl (h1.now hH8 (n := 2) rfl).is) ?_
  refine guard_yes rfl rfl (decide_eq_false hc9) ?_
  refine ops_y hH8 rfl rfl (yv_gtr rfl rfl) ?_
  refine ops_y hH8 rfl rfl (yv_pick_f rfl (decide_eq_false hc9) rfl) ?_
  refine ops_nil (thn_n ?_)
  by_cases hc13 : 12 < (p.length : Int)
  ·skip
   refine cond_t rfl (decide_eq_true hc13) ?_
   refine seq (region ?_)
   refine op_fnV rfl rfl rfl hH8 (c18 (hG.now hH8 (n := 2) rfl)) (fun w14 hH15 => ?_)
   refine ops_y hH15 rfl rfl (yv_assign rfl) (ops_nil (thn_n (ret (thn_r ?_))))
   have hH16 := (hH15.sub (List.Sublist.cons _ (List.Sublist.cons _ (List.Sublist.refl _))))
   refine fin hH16 (fun w' hf => (res1 rfl (show RV _ _ _ (.tmp 14) _ from rfl))) (fun w' hf => ?_)
   rfl
  ·skip
   refine cond_f rfl (decide_eq_false hc13) ?_
   refine skip (thn_n (seq ?_))
   have hl30 : l.length ≤ 30 := by omega
   have hp12 : p.length ≤ 12 := by omega
   refine region ?_
   refine ops_y hH8 rfl rfl (yv_loadA (cs := [v]) T.agg24 rfl rfl (fun _ hw => Heap.cellsw hw (n := 1) rfl (k := 0) rfl)) ?_
   refine ops_y hH8 rfl rfl (yv_move rfl) ?_
   refine op_fn rfl rfl rfl hH8 (c27 (i := i) (h0.now hH8 (n := 2) rfl) (by omega) (hG.now hH8 (n := 2) rfl)) (fun u19 w17 lo20 hi21 hH18 hv22 => ?_)
   obtain ⟨p24, hu, -⟩ := hv22
   subst hu
   have hH23 := Heap.tup2 hH18 (n := 0) rfl
   refine ops_y hH23 rfl rfl (yv_move rfl) (ops_y hH23 rfl rfl (yv_extract rfl rfl) (ops_y hH23 rfl rfl (yv_extract rfl rfl) (ops_y hH23 rfl rfl (yv_assign rfl) (ops_y hH23 rfl rfl (yv_assign rfl) (ops_nil (thn_n (seq (region ?_))))))))
   refine ops_y hH23 rfl rfl (yv_loadA (cs := [v]) T.agg24 rfl rfl (fun _ hw => Heap.cellsw hw (n := 2) rfl (k := 0) rfl)) ?_
   refine ops_y hH23 rfl rfl (yv_move rfl) ?_
   refine op_fn rfl rfl rfl hH23 (c28 (i := i) (h0.now hH23 (n := 3) rfl) (by omega) ) (fun u27 w25 lo28 hi29 hH26 hv30 => ?_)
   obtain ⟨p32, hu, -⟩ := hv30
   subst hu
   have hH31 := Heap.tup2 hH26 (n := 0) rfl
   refine ops_y hH31 rfl rfl (yv_move rfl) (ops_y hH31 rfl rfl (yv_extract rfl rfl) (ops_y hH31 rfl rfl (yv_extract rfl rfl) (ops_y hH31 rfl rfl (yv_assign rfl) (ops_y hH31 rfl rfl (yv_assign rfl) (ops_nil (thn_n (seq ?_)))))))
   refine region_draw (fun w' => Heap [ow lo28 hi29 32 1 encW p32 ((B.pathR l i).1), ow lo20 hi21 32 1 encW p24 ((B.pathR l i).1), bx b4 38 [(.int .i64 e.n), (.int .i64 e.d), (.int .i64 e.f), (.int .i64 e.t), (.int .i64 e.a)], bx b1 24 [v], base w] w') T.mixed (fun w33 hr34 => ?_)
   have hH35 := hH31.redrawn hr34
   refine any_takes [0, 1] (by kernel_rfl) hH35 _ _ _ (by kernel_rfl) ?_
   refine qs_y rfl rfl (yv_move rfl) (qs_y rfl rfl (yv_move rfl) (qs_nil ?_))
   refine any_all [2] (by kernel_rfl) rfl ?_
   refine ⟨⟨_, rfl, ?_⟩, trivial⟩
   ·skip
    refine op_fnV rfl rfl rfl hH35 (c29 (Heap.rdw T.el39_encW hH35 (n := 1) rfl) (Heap.rdw T.el39_encW hH35 (n := 0) rfl) (Nat.le_trans B.pathR_len (by decide)) (Nat.le_trans B.pathR_len (by decide))) (fun w36 hH37 => ?_)
    refine ops_nil ?_
    refine ⟨hH37, ?_⟩
    refine any_takes [3, 4, 5, 6, 7, 8, 9, 10, 11, 12, 13, 15, 16, 17, 18, 19] (by kernel_rfl) hH37 _ _ _ (by kernel_rfl) ?_
    refine qs_y rfl rfl (yv_move rfl) ?_
    refine qs_yes rfl rfl rfl (decide_eq_true rfl) rfl (yv_move rfl) ?_
    refine qs_yes rfl rfl rfl (decide_eq_true rfl) rfl (yv_move rfl) ?_
    refine qs_yes rfl rfl rfl (decide_eq_true rfl) rfl (yv_eql rfl rfl) ?_
    refine qs_y rfl rfl (yv_pick_t rfl (decide_eq_true rfl) rfl) ?_
    refine qs_y rfl rfl (yv_move rfl) ?_
    refine qs_yes rfl rfl rfl (decide_eq_true rfl) rfl (yv_loadA (cs := [(.int .i64 e.n), (.int .i64 e.d), (.int .i64 e.f), (.int .i64 e.t), (.int .i64 e.a)]) T.agg38 rfl rfl (fun _ hw => Heap.cellsw hw (n := 2) rfl (k := 0) rfl)) ?_
    refine qs_yes rfl rfl rfl (decide_eq_true rfl) rfl (yv_move rfl) ?_
    refine qs_yes rfl rfl rfl (decide_eq_true rfl) rfl (yv_move rfl) ?_
    refine qs_yes rfl rfl rfl (decide_eq_true rfl) rfl (yv_move rfl) ?_
    refine qs_yes rfl rfl rfl (decide_eq_true rfl) rfl (yv_move rfl) ?_
    refine qs_yes rfl rfl rfl (decide_eq_true rfl) rfl (yv_loadA (cs := [(.int .i64 e.n), (.int .i64 e.d), (.int .i64 e.f), (.int .i64 e.t), (.int .i64 e.a)]) T.agg38 rfl rfl (fun _ hw => Heap.cellsw hw (n := 2) rfl (k := 0) rfl)) ?_
    refine qs_yes rfl rfl rfl (decide_eq_true rfl) rfl (yv_move rfl) ?_
    refine qs_yes rfl rfl rfl (decide_eq_true rfl) rfl (yv_move rfl) ?_
    refine qs_yes rfl rfl rfl (decide_eq_true rfl) rfl (yv_move rfl) ?_
    refine qs_yes rfl rfl rfl (decide_eq_true rfl) rfl (yv_move rfl) ?_
    refine qs_nil ?_
    refine any_all [14] (by kernel_rfl) rfl ?_
    refine ⟨⟨_, rfl, ?_⟩, trivial⟩
    ·skip
     refine guard_yes rfl rfl (decide_eq_true rfl) ?_
     refine op_fnV rfl rfl rfl hH37 (c30 (e := e) (i := i2) (n := n) (r := r) (hG.now hH37 (n := 4) rfl) (h1.now hH37 (n := 4) rfl) (by omega)) (fun w38 hH39 => ?_)
     refine ops_nil ?_
     refine ⟨hH39, ?_⟩
     refine any_all [20] (by kernel_rfl) rfl ?_
     refine ⟨⟨_, rfl, ?_⟩, trivial⟩
     ·skip
      refine guard_yes rfl rfl (decide_eq_true rfl) ?_
      refine op_fnV rfl rfl rfl hH39 (c31 (e := e) (i := i2) (n := n) (r := r) (h1.now hH39 (n := 4) rfl) (by omega)) (fun w40 hH41 => ?_)
      refine ops_nil ?_
      refine ⟨hH41, ?_⟩
      refine any_takes [21, 22, 23] (by kernel_rfl) hH41 _ _ _ (by kernel_rfl) ?_
      refine qs_yes rfl rfl rfl (decide_eq_true rfl) rfl (yv_eql rfl rfl) ?_
      refine qs_y rfl rfl (yv_pick_t rfl (decide_eq_true rfl) rfl) ?_
      refine qs_y rfl rfl (yv_move rfl) (qs_nil ?_)
      refine any_all [24] (by kernel_rfl) rfl ?_
      refine ⟨⟨_, rfl, ?_⟩, trivial⟩
      ·skip
       refine guard_yes rfl rfl (decide_eq_true rfl) ?_
       refine op_fnV rfl rfl rfl hH41 (c18 (hG.now hH41 (n := 4) rfl)) (fun w42 hH43 => ?_)
       refine ops_nil ?_
       refine ⟨hH43, ?_⟩
       refine any_takes [25, 26] (by kernel_rfl) hH43 _ _ _ (by kernel_rfl) ?_
       refine qs_y rfl rfl (yv_pick_t rfl (decide_eq_true rfl) rfl) ?_
       refine qs_y rfl rfl (yv_assign rfl) (qs_nil ?_)
       refine any_done (by kernel_rfl) ?_
       refine thn_n (ret ?_)
       have hH44 := (hH43.sub (List.Sublist.cons _ (List.Sublist.cons _ (List.Sublist.cons _ (List.Sublist.cons _ (List.Sublist.refl _))))))
       refine fin hH44 (fun w' hf => (res1 rfl (show RV _ _ _ (.tmp 14) _ from rfl))) (fun w' hf => ?_)
       rfl
end Go.Fip
