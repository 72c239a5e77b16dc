/- Walks of the law, and what it alone needs, by program (wip/tools). -/
import Derived.Test.YtfomadbnfcadnaaGreatDoorMJ
set_option linter.unusedVariables false
set_option linter.unusedSimpArgs false
set_option linter.unusedSectionVars false
set_option linter.unnecessarySimpa false
namespace Go.Fip
open Go.ChangeShapes Go.WideShapes Go.ChangeAt Go.RowKit
section
variable {H : Type} {enc : TypeId × Value → H} {P : Program} {w : World}
theorem trodAll_below (hl : laidOutB P = true) {W W' : World} (hb : Below W.heap.size W W') : ∀ (ts : List TypeId) (vs : List Value) (ds : List (DataW H)) (ps : List MemPlace), (ts.all fun t => P.readableRec t && decide (t < P.types.size)) = true →
    DataW.TrodAll enc P W 0 (fun _ => true) true ts vs ds ps → (∀ x ∈ ps, x.block < W.heap.size) → DataW.TrodAll enc P W' 0 (fun b => decide (b < W.heap.size)) true ts vs ds ps
  | [], vs, ds, ps, _, h, _ => by
    obtain ⟨rfl, rfl, rfl⟩ := trodAll_nil h
    rfl
  | t :: ts, vs, ds, ps, hr, h, hlt => by
    obtain ⟨v, vs, d, ds, p, q, rfl, rfl, rfl, h1, h2⟩ := trodAll_cons h
    simp only [List.all_cons, Bool.and_eq_true, decide_eq_true_eq] at hr
    exact ⟨p, q, Below.trod hl hr.1.1 hr.1.2 h1 hb (fun x hx => hlt x (List.mem_append_left _ hx)), trodAll_below hl hb ts vs ds q (by simpa using hr.2) h2 (fun x hx => hlt x (List.mem_append_right _ hx)), rfl⟩
theorem law_post {f : Func} {s : ChangeSpec} {apart fresh : Bool} {W W' : World} {args : Array Value} {ds : List (DataW H)} {before p : List MemPlace} {tb : TypeId} (hl : laidOutB P = true) (hb : Below W.heap.size W W')
    (hr : (f.params.toList.all fun t => P.readableRec t && decide (t < P.types.size)) = true) (hv : s.vars = []) (hW : DataW.Whole enc P f.params.toList s.vars apart W args.toList ds [] before)
    (hA : DataW.TrodAll enc P W 0 (fun _ => true) true f.params.toList args.toList ds p) (hp : before = p) (hrt : f.resultTypes = #[tb]) (htb : P.underlying tb = some .bool) (hs : s.fn H (ds ++ []) = { results := [.lit (.bool true)], args := ds }) :
    s.post enc P f apart fresh false false W args (.bool true) W' := by
  subst hp
  refine ⟨ds, [], before, [], before, [], hW, ?_, ?_, ?_, Below.frame hb _, fun h => by cases h⟩
  · rw [hs, hrt]; exact trodAll_mk1 (shut_bool htb _)
  · rw [hs]; exact trodAll_below hl hb _ _ _ _ hr hA (fun x hx => by simpa using hW.lt x hx)
  · rw [hs, hv]; rfl
end
end Go.Fip
namespace Go.Fip
open Go.Proofs Go.RowKit
namespace K
theorem k1 : B.balR B.three 2 11 = (180, 0) := by decide +kernel
theorem k2 : B.balR B.three 3 9 = (0, 0) := by decide +kernel
theorem k5 : (((15194925396971619381 : UInt64).toNat : Nat) : Int) = 15194925396971619381 := by decide +kernel
end K
end Go.Fip
namespace Go.Fip.B
open Go.Fip
def strsF : Nat → List En → List (List UInt8)
  | 0, _ => []
  | f + 1, l => if l.length = 0 then [[]] else if l.length = 1 then [leaf (nth l 0)] else strsF f (l.take (half l.length)) ++ strsF f (l.drop (half l.length)) ++ [both (root (l.take (half l.length))) (root (l.drop (half l.length)))]
def strs (l : List En) : List (List UInt8) := strsF (l.length + 1) l
theorem strsF_fuel : ∀ (f g : Nat) (l : List En), l.length < f → l.length < g → strsF f l = strsF g l
  | 0, g, l, h, _ => absurd h (Nat.not_lt_zero _)
  | f + 1, 0, l, _, h => absurd h (Nat.not_lt_zero _)
  | f + 1, g + 1, l, h1, h2 => by
    unfold strsF
    split
    · rfl
    split
    · rfl
    · have hh := half_lt (n := l.length) (by omega)
      rw [strsF_fuel f g (l.take (half l.length)) (by rw [List.length_take]; omega) (by rw [List.length_take]; omega), strsF_fuel f g (l.drop (half l.length)) (by rw [List.length_drop]; omega) (by rw [List.length_drop]; omega)]
theorem strs_nil {l : List En} (h : l.length = 0) : strs l = [[]] := by unfold strs strsF; rw [if_pos h]
theorem strs_one {l : List En} (h : l.length = 1) : strs l = [leaf (nth l 0)] := by unfold strs strsF; rw [if_neg (by omega), if_pos h]
theorem strs_two {l : List En} (h : 2 ≤ l.length) : strs l = strs (l.take (half l.length)) ++ strs (l.drop (half l.length)) ++ [both (root (l.take (half l.length))) (root (l.drop (half l.length)))] := by
  have hh := half_lt (n := l.length) (by omega)
  conv => lhs; unfold strs strsF
  rw [if_neg (by omega), if_neg (by omega)]
  unfold strs
  rw [strsF_fuel l.length ((l.take (half l.length)).length + 1) _ (by rw [List.length_take]; omega) (Nat.lt_succ_self _), strsF_fuel l.length ((l.drop (half l.length)).length + 1) _ (by rw [List.length_drop]; omega) (Nat.lt_succ_self _)]
def coll (l : List (List UInt8)) : Prop := ∃ i : Nat, i < l.length ∧ ∃ j : Nat, j < i ∧ sm (nth l (j : Int)) = sm (nth l (i : Int)) ∧ ¬ nth l (j : Int) = nth l (i : Int)
instance {l : List (List UInt8)} : Decidable (coll l) := by unfold coll; infer_instance
def inj (l : List (List UInt8)) : Prop := ∀ x ∈ l, ∀ y ∈ l, sm x = sm y → x = y
theorem inj_of {l : List (List UInt8)} (h : ¬ coll l) : inj l := by
  intro x hx y hy e
  obtain ⟨i, hi, rfl⟩ := List.getElem_of_mem hx
  obtain ⟨j, hj, rfl⟩ := List.getElem_of_mem hy
  refine Decidable.byContradiction fun hne => h ?_
  rcases Nat.lt_trichotomy i j with h1 | h1 | h1
  · exact ⟨j, hj, i, h1, by rw [nth_nat hi, nth_nat hj]; exact e, by rw [nth_nat hi, nth_nat hj]; exact hne⟩
  · subst h1; exact absurd rfl hne
  · exact ⟨i, hi, j, h1, by rw [nth_nat hi, nth_nat hj]; exact e.symm, by rw [nth_nat hi, nth_nat hj]; exact fun c => hne c.symm⟩
theorem inj.sub {l m : List (List UInt8)} (h : inj m) (hs : ∀ x ∈ l, x ∈ m) : inj l := fun x hx y hy e => h x (hs x hx) y (hs y hy) e
theorem strs_mem_left {l : List En} (h : 2 ≤ l.length) : ∀ x ∈ strs (l.take (half l.length)), x ∈ strs l := fun x hx => by
  rw [strs_two h]; exact List.mem_append_left _ (List.mem_append_left _ hx)
theorem strs_mem_right {l : List En} (h : 2 ≤ l.length) : ∀ x ∈ strs (l.drop (half l.length)), x ∈ strs l := fun x hx => by
  rw [strs_two h]; exact List.mem_append_left _ (List.mem_append_right _ hx)
theorem strs_mem_top {l : List En} (h : 2 ≤ l.length) : both (root (l.take (half l.length))) (root (l.drop (half l.length))) ∈ strs l := by
  rw [strs_two h]; exact List.mem_append_right _ (List.mem_singleton.2 rfl)
theorem strs_mem_one {l : List En} (h : l.length = 1) : leaf (nth l 0) ∈ strs l := by rw [strs_one h]; exact List.mem_singleton.2 rfl
theorem inR_take {l : List En} (h : InR l) (k : Nat) : InR (l.take k) := fun i hi => by
  rw [List.length_take] at hi
  have := h i (by omega)
  rw [nth_nat (by omega)] at this
  rw [nth_nat (by rw [List.length_take]; omega), List.getElem_take]; exact this
theorem inR_drop {l : List En} (h : InR l) (k : Nat) : InR (l.drop k) := fun i hi => by
  rw [List.length_drop] at hi
  have := h (k + i) (by omega)
  rw [nth_nat (by omega)] at this
  rw [nth_nat (by rw [List.length_drop]; omega), List.getElem_drop]; exact this
theorem root_eq {S : List (List UInt8)} (hS : inj S) : ∀ (n : Nat) (l m : List En), l.length = n → m.length = n → InR l → InR m → (∀ x ∈ strs l, x ∈ S) → (∀ x ∈ strs m, x ∈ S) → root l = root m → l = m := by
  intro n
  induction n using Nat.strongRecOn with
  | _ n ih =>
    intro l m hl hm hil him hsl hsm he
    by_cases h0 : n = 0
    · rw [List.eq_nil_of_length_eq_zero (hl.trans h0), List.eq_nil_of_length_eq_zero (hm.trans h0)]
    by_cases h1 : n = 1
    · rw [root_one (by omega), root_one (by omega)] at he
      have h2 := hS _ (hsl _ (strs_mem_one (by omega))) _ (hsm _ (strs_mem_one (by omega))) he
      have h3 := leaf_inj (hil 0 (by omega)) (him 0 (by omega)) h2
      obtain ⟨a, rfl⟩ : ∃ a, l = [a] := List.length_eq_one_iff.1 (by omega)
      obtain ⟨b, rfl⟩ : ∃ b, m = [b] := List.length_eq_one_iff.1 (by omega)
      have h4 : a = b := h3
      rw [h4]
    · have hh := half_lt (n := n) (by omega)
      rw [root_two (l := l) (by omega), root_two (l := m) (by omega)] at he
      have h2 := hS _ (hsl _ (strs_mem_top (by omega))) _ (hsm _ (strs_mem_top (by omega))) he
      obtain ⟨h3, h4⟩ := both_inj h2
      rw [hl] at h3 h4
      rw [hm] at h3 h4
      have e1 := ih (half n) (by omega) (l.take (half n)) (m.take (half n)) (by rw [List.length_take]; omega) (by rw [List.length_take]; omega) (inR_take hil _) (inR_take him _)
        (fun x hx => hsl x (by have := strs_mem_left (l := l) (by omega) x; rw [hl] at this; exact this hx)) (fun x hx => hsm x (by have := strs_mem_left (l := m) (by omega) x; rw [hm] at this; exact this hx)) h3
      have e2 := ih (n - half n) (by omega) (l.drop (half n)) (m.drop (half n)) (by rw [List.length_drop]; omega) (by rw [List.length_drop]; omega) (inR_drop hil _) (inR_drop him _)
        (fun x hx => hsl x (by have := strs_mem_right (l := l) (by omega) x; rw [hl] at this; exact this hx)) (fun x hx => hsm x (by have := strs_mem_right (l := m) (by omega) x; rw [hm] at this; exact this hx)) h4
      rw [← List.take_append_drop (half n) l, ← List.take_append_drop (half n) m, e1, e2]
end Go.Fip.B
namespace Go.Fip
open Go.Proofs Go.RowKit
theorem B.nth_map_sm {l : List (List UInt8)} {i j : Nat} (hj : j < i) (hi : i ≤ l.length) : nth ((l.take i).map B.sm) (j : Int) = B.sm (nth l (j : Int)) := by
 rw [nth_nat (by rw [List.length_map, List.length_take]; omega), nth_nat (by omega), List.getElem_map, List.getElem_take]
theorem B.map_sm_succ {l : List (List UInt8)} {i : Nat} (hi : i < l.length) : (l.take i).map B.sm ++ [B.sm (nth l (i : Int))] = (l.take (i + 1)).map B.sm := by
 rw [List.take_succ_eq_append_getElem hi, List.map_append, nth_nat hi]; rfl
theorem word_eq {a b : UInt64} (h : (a.toNat : Int) = (b.toNat : Int)) : a = b := UInt64.toNat_inj.1 (by omega)
theorem word_ne {a b : UInt64} (h : ¬ (a.toNat : Int) = (b.toNat : Int)) : ¬ a = b := fun e => h (by rw [e])
theorem c47 {v : Value} {l : List (List UInt8)} {w : World} (h0 : Rd encT 1 v l w) (hn : l.length ≤ 1000000) (hlen : ∀ x ∈ l, x.length ≤ 1000)  :
  Fn Tryz.prog 47 [v].toArray w (fun u _ => u = .bool (decide (B.coll l))) := by
 refine fn_of' (args := [v]) Tryz.func47 rfl (ent Tryz.func47 (by kernel_rfl) rfl) rfl rfl (fun hH => ?_)
 refine seq (region (oA hH rfl rfl (ops_nil (thn_n (seq (region (oA hH rfl rfl (ops_nil (thn_n ?_)))))))))
 refine seq (seq (region (oA hH rfl rfl (ops_nil (thn_n (block ?_))))))
 have hH1 := ow_nil (enc := encW) 32 1 hH
 refine loop (S := Nat × Value × Nat × Nat) (fun (i, v_3, lo_3, hi_3) => [(4, (.int .i64 (i : Int))), (3, v_3), (0, v)]) (fun (i, v_3, lo_3, hi_3) w1 => Heap [ow lo_3 hi_3 32 1 encW v_3 ((l.take i).map B.sm), base w] w1 ∧ i ≤ l.length ∧ ∀ i2 : Nat, i2 < i → ∀ j : Nat, j < i2 → ¬ (B.sm (nth l (j : Int)) = B.sm (nth l (i2 : Int)) ∧ ¬ nth l (j : Int) = nth l (i2 : Int))) (fun (i, v_3, lo_3, hi_3) => l.length - i) (0, (.slice none 0 0), w.heap.size, w.heap.size) (uC rfl (uC rfl (uC rfl (Sub.nil _)))) ?_ ?_
 ·exact ⟨(Heap.recast (n := 0) hH1 rfl (rfl)), by omega, fun i2 h => by omega⟩
 ·rintro ⟨i, v_3, lo_3, hi_3⟩ w2 ⟨hH3, hi, hall⟩
  show Holds _ _ _ _ _ [(4, (.int .i64 (i : Int))), (3, v_3), (0, v)] _ _
  have hml : ((l.take i).map B.sm).length = i := by rw [List.length_map, List.length_take]; omega
  refine seq (seq (region (oM hH3 rfl rfl (oM hH3 rfl rfl ?_))))
  refine ops_y hH3 rfl rfl (yv_len T.sl56 rfl (h0.now hH3 (n := 1) rfl).is) ?_
  refine ops_y hH3 rfl rfl (yv_lss rfl rfl) ?_
  refine ops_nil (thn_n ?_)
  by_cases hc4 : (i : Int) < (l.length : Int)
  ·skip
   refine cond_t rfl (dT hc4) ?_
   refine skip (thn_n (seq (block (seq ?_))))
   have hli : (nth l (i : Int)).length ≤ 1000 := hlen _ (B.nth_mem (by omega))
   refine region (oM hH3 rfl rfl (oM hH3 rfl rfl ?_))
   refine ops_y hH3 rfl rfl (yv_index T.sl56 rfl rfl (h0.now hH3 (n := 1) rfl).is (by omega)) ?_
   refine ops_y hH3 rfl rfl (yv_load T.one9 rfl (fun _ hw => Rd.at (h0.now hw (n := 1) rfl) (i := (i : Int)) (by omega) (j := 0) rfl)) ?_
   refine op_fnV rfl rfl rfl hH3 (c69 (l := (nth l (i : Int))) (by first | omega | exact Nat.le_trans hli (by decide))) (fun w5 hH6 => ?_)
   refine oA hH6 rfl rfl (ops_nil (thn_n (seq (seq (region (oA hH6 rfl rfl (ops_nil (thn_n (block ?_)))))))))
   refine loop (S := Nat) (fun j => [(6, (.int .i64 (j : Int))), (0, v), (3, v_3), (4, (.int .i64 (i : Int))), (5, (.int .u64 ((B.sm (nth l (i : Int))).toNat : Int)))]) (fun j w1 => Heap [ow lo_3 hi_3 32 1 encW v_3 ((l.take i).map B.sm), base w] w1 ∧ j ≤ i ∧ ∀ j2 : Nat, j2 < j → ¬ (B.sm (nth l (j2 : Int)) = B.sm (nth l (i : Int)) ∧ ¬ nth l (j2 : Int) = nth l (i : Int))) (fun j => i - j) (0) (uC rfl (uC rfl (uC rfl (uC rfl (uC rfl (Sub.nil _)))))) ?_ ?_
   ·exact ⟨hH6, by omega, fun j2 h => by omega⟩
   ·rintro j w7 ⟨hH8, hj, hal2⟩
    show Holds _ _ _ _ _ [(6, (.int .i64 (j : Int))), (0, v), (3, v_3), (4, (.int .i64 (i : Int))), (5, (.int .u64 ((B.sm (nth l (i : Int))).toNat : Int)))] _ _
    have hnm : j < i → nth ((l.take i).map B.sm) (j : Int) = B.sm (nth l (j : Int)) := fun h => B.nth_map_sm h (by omega)
    refine seq (seq (region (oM hH8 rfl rfl (oM hH8 rfl rfl ?_))))
    refine ops_y hH8 rfl rfl (yv_lss rfl rfl) ?_
    refine ops_nil (thn_n ?_)
    by_cases hc9 : (j : Int) < (i : Int)
    ·skip
     refine cond_t rfl (dT hc9) ?_
     refine skip (thn_n (seq (block (seq ?_))))
     refine region_draw (fun w' => Heap [ow lo_3 hi_3 32 1 encW v_3 ((l.take i).map B.sm), base w] w') T.mixed (fun w10 hr11 => ?_)
     have hH12 := hH8.redrawn hr11
     refine any_takes [0, 1, 2, 3, 4, 5, 6] (by kernel_rfl) hH12 _ _ _ (by kernel_rfl) ?_
     refine qM rfl rfl rfl (qM rfl rfl rfl ?_)
     refine qs_y rfl rfl (yv_index T.sl39 rfl rfl (Heap.rdw T.el39_encW hH12 (n := 0) rfl).is (by omega)) ?_
     refine qs_y rfl rfl (yv_load T.one32 rfl (fun _ hw => Rd.at (Heap.rdw T.el39_encW hw (n := 0) rfl) (i := (j : Int)) (by omega) (j := 0) rfl)) ?_
     refine qM rfl rfl rfl ?_
     refine qs_y rfl rfl (yv_eql rfl rfl) ?_
     refine qM rfl rfl rfl (qs_nil ?_)
     by_cases hc13 : ((nth ((l.take i).map B.sm) (j : Int)).toNat : Int) = ((B.sm (nth l (i : Int))).toNat : Int)
     ·skip
      refine any_takes [7, 8, 9, 10, 11, 12, 13, 14, 15, 16] (by kernel_rfl) hH12 _ _ _ (by kernel_rfl) ?_
      refine qW rfl rfl rfl (dT hc13) rfl rfl ?_
      refine qW rfl rfl rfl (dT hc13) rfl rfl ?_
      refine qs_yes rfl rfl rfl (dT hc13) rfl (yv_index T.sl56 rfl rfl (h0.now hH12 (n := 1) rfl).is (by omega)) ?_
      refine qs_yes rfl rfl rfl (dT hc13) rfl (yv_load T.one9 rfl (fun _ hw => Rd.at (h0.now hw (n := 1) rfl) (i := (j : Int)) (by omega) (j := 0) rfl)) ?_
      refine qW rfl rfl rfl (dT hc13) rfl rfl ?_
      refine qW rfl rfl rfl (dT hc13) rfl rfl ?_
      refine qs_yes rfl rfl rfl (dT hc13) rfl (yv_index T.sl56 rfl rfl (h0.now hH12 (n := 1) rfl).is (by omega)) ?_
      refine qs_yes rfl rfl rfl (dT hc13) rfl (yv_load T.one9 rfl (fun _ hw => Rd.at (h0.now hw (n := 1) rfl) (i := (i : Int)) (by omega) (j := 0) rfl)) ?_
      refine qs_yes rfl rfl rfl (dT hc13) rfl (yv_neqS rfl rfl) ?_
      refine qs_y rfl rfl (yv_pick_t rfl (dT hc13) rfl) ?_
      refine qs_nil ?_
      refine any_done (by kernel_rfl) ?_
      refine thn_n ?_
      by_cases hc14 : (nth l (j : Int)) = (nth l (i : Int))
      ·skip
       refine cond_f rfl (not_decide_n hc14) ?_
       refine skip (blk_n (thn_n ?_))
       have hno : ¬ (B.sm (nth l (j : Int)) = B.sm (nth l (i : Int)) ∧ ¬ nth l (j : Int) = nth l (i : Int)) := by rw [← hnm (by omega)]; first | exact fun h => h.2 ‹_› | exact fun h => word_ne ‹_› h.1
       refine region (oM hH12 rfl rfl ?_)
       refine ops_y hH12 rfl rfl (yv_add rfl rfl (by omega)) ?_
       refine oA hH12 rfl rfl (ops_nil ?_)
       refine lp_n (j + 1) (uC rfl (uC rfl (uC rfl (uC rfl (uC rfl (Sub.nil _)))))) ?_ ?_
       ·exact ⟨hH12, by omega, B.all_snoc hal2 hno⟩
       ·first | (dsimp only; omega) | (show _ < _; omega)
      ·skip
       refine cond_t rfl (not_decide_t hc14) ?_
       refine seq ?_
       have hnj := hnm (by omega)
       have hco : B.coll l := ⟨i, by omega, j, by omega, by rw [← hnj]; exact word_eq ‹_›, ‹_›⟩
       refine region (oA hH12 rfl rfl (ops_nil (thn_n (ret (blk_r (thn_r (lp_r (blk_r (thn_r ?_)))))))))
       refine blk_r (thn_r (lp_r (blk_r (thn_r ?_))))
       have hH15 := (hH12.sub (sC sR))
       refine fin hH15 (fun w' hf => (res1 rfl (show RV _ _ _ (.tmp 2) _ from rfl))) (fun w' hf => ?_)
       first | exact congrArg Value.bool (dT hco).symm | exact congrArg Value.bool (dF hnc).symm
     ·skip
      refine any_takes [7, 8, 9, 10, 11, 12, 13, 14, 15, 16] (by kernel_rfl) hH12 _ _ _ (by kernel_rfl) ?_
      refine qs_no rfl rfl rfl (dF hc13) rfl ?_
      refine qs_no rfl rfl rfl (dF hc13) rfl ?_
      refine qs_no rfl rfl rfl (dF hc13) rfl ?_
      refine qs_no rfl rfl rfl (dF hc13) rfl ?_
      refine qs_no rfl rfl rfl (dF hc13) rfl ?_
      refine qs_no rfl rfl rfl (dF hc13) rfl ?_
      refine qs_no rfl rfl rfl (dF hc13) rfl ?_
      refine qs_no rfl rfl rfl (dF hc13) rfl ?_
      refine qs_no rfl rfl rfl (dF hc13) rfl ?_
      refine qs_y rfl rfl (yv_pick_f rfl (dF hc13) rfl) ?_
      refine qs_nil ?_
      refine any_done (by kernel_rfl) ?_
      refine thn_n ?_
      refine cond_f rfl rfl ?_
      refine skip (blk_n (thn_n ?_))
      have hno : ¬ (B.sm (nth l (j : Int)) = B.sm (nth l (i : Int)) ∧ ¬ nth l (j : Int) = nth l (i : Int)) := by rw [← hnm (by omega)]; first | exact fun h => h.2 ‹_› | exact fun h => word_ne ‹_› h.1
      refine region (oM hH12 rfl rfl ?_)
      refine ops_y hH12 rfl rfl (yv_add rfl rfl (by omega)) ?_
      refine oA hH12 rfl rfl (ops_nil ?_)
      refine lp_n (j + 1) (uC rfl (uC rfl (uC rfl (uC rfl (uC rfl (Sub.nil _)))))) ?_ ?_
      ·exact ⟨hH12, by omega, B.all_snoc hal2 hno⟩
      ·first | (dsimp only; omega) | (show _ < _; omega)
    ·skip
     refine cond_f rfl (dF hc9) ?_
     refine exit (thn_x (lp_x (blk_here (thn_n (region (oM hH8 rfl rfl (oM hH8 rfl rfl ?_)))))))
     refine op_lit (us := [(0, (.int .u64 ((B.sm (nth l (i : Int))).toNat : Int)))]) T.el39_encW [B.sm (nth l (i : Int))] rfl (by decide) rfl (fun a ha => by simp [ha.ev (show ev _ (.tmp 41) = some _ from rfl)]) (fun w => by kernel_rfl) hH8 (fun u16 lo18 hi19 w17 hH20 => ?_)
     refine op_append (n := 1) T.el39_encW rfl rfl rfl hH20 rfl (Heap.rdw T.el39_encW hH20 (n := 0) rfl) (by first | omega | (simp only [List.length_append, List.length_cons, List.length_nil]; omega)) (fun u21 lo23 hi24 w22 hH25 => ?_)
     refine oA hH25 rfl rfl (ops_nil (blk_n (thn_n (region (oM hH25 rfl rfl ?_)))))
     refine ops_y hH25 rfl rfl (yv_add rfl rfl (by omega)) ?_
     refine oA hH25 rfl rfl (ops_nil ?_)
     have hH26 := (hH25.sub (sC sR))
     refine lp_n (i + 1, u21, lo23, hi24) (uC rfl (uC rfl (uC rfl (Sub.nil _)))) ?_ ?_
     ·exact ⟨(Heap.recast (n := 0) hH26 rfl (B.map_sm_succ (by omega))), by omega, B.all_snoc hall (fun j2 hj2 => hal2 j2 (by omega))⟩
     ·first | (dsimp only; omega) | (show _ < _; omega)
  ·skip
   refine cond_f rfl (dF hc4) ?_
   refine exit (thn_x (lp_x (blk_here (thn_n (seq ?_)))))
   have hnc : ¬ B.coll l := fun h => by obtain ⟨i2, h1, j2, h2, h3, h4⟩ := h; exact hall i2 (by omega) j2 h2 ⟨h3, h4⟩
   refine region (oA hH3 rfl rfl (ops_nil (thn_n (ret ?_))))
   have hH27 := (hH3.sub (sC sR))
   refine fin hH27 (fun w' hf => (res1 rfl (show RV _ _ _ (.tmp 2) _ from rfl))) (fun w' hf => ?_)
   first | exact congrArg Value.bool (dT hco).symm | exact congrArg Value.bool (dF hnc).symm
theorem B.strs_len1 : ∀ (n : Nat) (l : List En), l.length = n → 1 ≤ n → (B.strs l).length + 1 ≤ 2 * n := by
 intro n
 induction n using Nat.strongRecOn with
 | _ n ih =>
  intro l hl hn
  by_cases h1 : n = 1
  ·rw [B.strs_one (by omega)]; simp; omega
  ·have hh := B.half_lt (n := n) (by omega)
   rw [B.strs_two (by omega), hl]
   have e1 := ih (B.half n) (by omega) (l.take (B.half n)) (by rw [List.length_take]; omega) (by omega)
   have e2 := ih (n - B.half n) (by omega) (l.drop (B.half n)) (by rw [List.length_drop]; omega) (by omega)
   simp only [List.length_append, List.length_cons, List.length_nil]
   omega
theorem B.strs_len (n : Nat) (l : List En) (hl : l.length = n) : (B.strs l).length ≤ 2 * n + 1 := by
 by_cases h0 : n = 0
 ·rw [B.strs_nil (by omega)]; simp
 ·have := B.strs_len1 n l hl (by omega); omega
theorem B.strs_each : ∀ (n : Nat) (l : List En), l.length = n → B.InR l → ∀ x ∈ B.strs l, x.length ≤ 1000 := by
 intro n
 induction n using Nat.strongRecOn with
 | _ n ih =>
  intro l hl hin x hx
  by_cases h0 : n = 0
  ·rw [B.strs_nil (by omega)] at hx; rw [List.mem_singleton] at hx; subst hx; simp
  by_cases h1 : n = 1
  ·rw [B.strs_one (by omega)] at hx; rw [List.mem_singleton] at hx; subst hx
   have := B.leaf_len (B.text_len (hin 0 (by omega)))
   exact Nat.le_trans this (by decide)
  ·have hh := B.half_lt (n := n) (by omega)
   rw [B.strs_two (by omega), hl] at hx
   rcases List.mem_append.1 hx with hx | hx
   ·rcases List.mem_append.1 hx with hx | hx
    ·exact ih (B.half n) (by omega) _ (by rw [List.length_take]; omega) (B.inR_take hin _) x hx
    ·exact ih (n - B.half n) (by omega) _ (by rw [List.length_drop]; omega) (B.inR_drop hin _) x hx
   ·rw [List.mem_singleton] at hx; subst hx; rw [B.both_len]; omega
theorem c48r {v : Value} {l : List En} {w : World} (h0 : Rd encE 5 v l w) (hn : l.length ≤ 64) (hin : B.InR l) (ih : ∀ {v1 : Value} {l1 : List En} {w1 : World}, Rd encE 5 v1 l1 w1 → l1.length < l.length → l1.length ≤ 64 → B.InR l1 → Fn Tryz.prog 48 #[v1] w1 (fun u w => Own 9 1 encT u (B.strs l1) w))  :
  Fn Tryz.prog 48 [v].toArray w (fun u w => Own 9 1 encT u (B.strs l) w) := by
 refine fn_of' (args := [v]) Tryz.func48 rfl (ent Tryz.func48 (by kernel_rfl) rfl) rfl rfl (fun hH => ?_)
 refine seq (region (oA hH rfl rfl (ops_nil (thn_n (seq (seq (region (oM hH rfl rfl ?_))))))))
 refine ops_y hH rfl rfl (yv_len T.sl22 rfl (h0.now hH (n := 0) rfl).is) ?_
 refine ops_y hH rfl rfl (yv_eql rfl rfl) ?_
 refine ops_nil (thn_n ?_)
 by_cases hc1 : (l.length : Int) = 0
 ·skip
  refine cond_t rfl (dT hc1) ?_
  refine seq (region ?_)
  refine op_lit (us := [(0, (str ([] : List UInt8)))]) T.el56_encT [([] : List UInt8)] rfl (by decide) rfl (fun a ha => by simp [ha.ev (show ev _ (.const (str ([] : List UInt8))) = some _ from rfl)] <;> rfl) (fun w => by kernel_rfl) hH (fun u2 lo4 hi5 w3 hH6 => ?_)
  refine oA hH6 rfl rfl (ops_nil (thn_n (ret (thn_r ?_))))
  refine fin (hH6.front (n := 1) rfl) (fun w' hf => (res1 rfl (show RV _ _ _ (.tmp 2) _ from rfl))) (fun w' hf => ?_)
  first | (rw [B.strs_nil (by omega)]; exact Heap.own hf (n := 0) rfl) | (rw [B.strs_one (by omega)]; exact Heap.own hf (n := 0) rfl) | (rw [B.strs_two (by omega)]; exact Heap.own hf (n := 0) rfl)
 ·skip
  refine cond_f rfl (dF hc1) ?_
  refine skip (thn_n (seq (seq ?_)))
  have hne : ¬ l.length = 0 := by omega
  refine region (oM hH rfl rfl ?_)
  refine ops_y hH rfl rfl (yv_len T.sl22 rfl (h0.now hH (n := 0) rfl).is) ?_
  refine ops_y hH rfl rfl (yv_eql rfl rfl) ?_
  refine ops_nil (thn_n ?_)
  by_cases hc7 : (l.length : Int) = 1
  ·skip
   refine cond_t rfl (dT hc7) ?_
   refine seq ?_
   have hl1 : l.length = 1 := by omega
   have he0 := hin 0 (by omega)
   refine region (oM hH rfl rfl ?_)
   refine ops_y hH rfl rfl (yv_index T.sl22 rfl rfl (h0.now hH (n := 0) rfl).is (by omega)) ?_
   refine ops_y hH rfl rfl (yv_loadA (cs := [(.int .i64 ((nth l 0).n)), (.int .i64 ((nth l 0).d)), (.int .i64 ((nth l 0).f)), (.int .i64 ((nth l 0).t)), (.int .i64 ((nth l 0).a))]) T.agg38 rfl rfl (fun _ hw => Rd.atA (h0.now hw (n := 0) rfl) (i := 0) (by omega))) ?_
   refine op_fnV rfl rfl rfl hH (c95 (e := (nth l 0)) he0) (fun w8 hH9 => ?_)
   refine op_lit (us := [(0, (str (B.leaf (nth l 0))))]) T.el56_encT [(B.leaf (nth l 0))] rfl (by decide) rfl (fun a ha => by simp [ha.ev (show ev _ (.tmp 15) = some _ from rfl)] <;> rfl) (fun w => by kernel_rfl) hH9 (fun u10 lo12 hi13 w11 hH14 => ?_)
   refine oA hH14 rfl rfl (ops_nil (thn_n (ret (thn_r ?_))))
   refine fin (hH14.front (n := 1) rfl) (fun w' hf => (res1 rfl (show RV _ _ _ (.tmp 2) _ from rfl))) (fun w' hf => ?_)
   first | (rw [B.strs_nil (by omega)]; exact Heap.own hf (n := 0) rfl) | (rw [B.strs_one (by omega)]; exact Heap.own hf (n := 0) rfl) | (rw [B.strs_two (by omega)]; exact Heap.own hf (n := 0) rfl)
  ·skip
   refine cond_f rfl (dF hc7) ?_
   refine skip (thn_n (seq ?_))
   have hl2 : 2 ≤ l.length := by omega
   have hbh := B.half_lt hl2
   refine region (oM hH rfl rfl ?_)
   refine ops_y hH rfl rfl (yv_len T.sl22 rfl (h0.now hH (n := 0) rfl).is) ?_
   refine op_fnV rfl rfl rfl hH (c96 (by omega)) (fun w15 hH16 => ?_)
   refine oA hH16 rfl rfl (ops_nil (thn_n (seq ?_)))
   have hsl := B.strs_len _ (l.take (B.half l.length : Int).toNat) rfl
   have hsd := B.strs_len _ (l.drop (B.half l.length : Int).toNat) rfl
   have htk : (l.take (B.half l.length : Int).toNat).length ≤ 64 := by rw [List.length_take]; omega
   have htd : (l.drop (B.half l.length : Int).toNat).length ≤ 64 := by rw [List.length_drop]; omega
   refine region_drawY (fun w' => Heap [base w] w') [8] T.mixed (fun w17 hr18 => ?_)
   have hH19 := hH16.redrawn hr18
   refine any_takesT [0, 1, 2, 4, 5, 6] (by kernel_rfl)  _ _ _ (by kernel_rfl) ?_
   refine qM rfl rfl rfl (qM rfl rfl rfl ?_)
   refine qs_y rfl rfl (yv_cut_hi T.sl22 rfl rfl (h0.now hH19 (n := 0) rfl).is (by omega)) ?_
   refine qM rfl rfl rfl (qM rfl rfl rfl ?_)
   refine qs_y rfl rfl (yv_cut_lo T.sl22 rfl rfl (h0.now hH19 (n := 0) rfl).is (by omega)) ?_
   refine qs_nil ?_
   refine any_allY [3] (by kernel_rfl) rfl ?_
   refine ⟨⟨_, rfl, ?_⟩, trivial⟩
   ·skip
    refine op_fn rfl rfl rfl hH19 (ih (Rd.upto (h0.now hH19 (n := 0) rfl) (hi := (B.half l.length : Int).toNat) (by omega)) (by first | (rw [List.length_take]; omega) | (rw [List.length_drop]; omega)) (by first | (rw [List.length_take]; omega) | (rw [List.length_drop]; omega)) (by first | exact B.inR_take hin _ | exact B.inR_drop hin _)) (fun u22 w20 lo23 hi24 hH21 hv25 => ?_)
    have hH26 := Heap.toOw hH21 (n := 0) rfl
    refine ops_nil ?_
    refine ⟨fun _ _ => (hH26.sub (sC sR)), ?_⟩
    refine any_allY [7] (by kernel_rfl) rfl ?_
    refine ⟨⟨_, rfl, ?_⟩, trivial⟩
    ·skip
     refine op_fn rfl rfl rfl hH26 (ih (Rd.from (h0.now hH26 (n := 1) rfl) (lo := (B.half l.length : Int).toNat) (by omega)) (by first | (rw [List.length_take]; omega) | (rw [List.length_drop]; omega)) (by first | (rw [List.length_take]; omega) | (rw [List.length_drop]; omega)) (by first | exact B.inR_take hin _ | exact B.inR_drop hin _)) (fun u29 w27 lo30 hi31 hH28 hv32 => ?_)
     have hH33 := Heap.toOw hH28 (n := 0) rfl
     refine ops_nil ?_
     refine ⟨fun _ _ => (hH33.sub (sC (sC sR))), ?_⟩
     refine any_allY [8] (by kernel_rfl) rfl ?_
     refine ⟨⟨_, rfl, ?_⟩, trivial⟩
     ·skip
      refine op_append (n := 1) T.el56_encT rfl rfl rfl hH33 rfl (Heap.rdw T.el56_encT hH33 (n := 0) rfl) (by first | omega | (simp only [List.length_append, List.length_cons, List.length_nil]; omega)) (fun u34 lo36 hi37 w35 hH38 => ?_)
      refine ops_nil ?_
      refine ⟨(fun h => by cases h), ?_⟩
      refine any_takesT [9] (by kernel_rfl)  _ _ _ (by kernel_rfl) ?_
      refine qs_y rfl rfl (yv_assign rfl) (qs_nil ?_)
      refine any_doneY (by kernel_rfl) ?_
      refine thn_n (seq ?_)
      refine region_drawY (fun w' => Heap [base w] w') [11] T.mixed (fun w39 hr40 => ?_)
      have hH41 := hH38.redrawn hr40
      refine any_takesT [0, 1, 2, 3, 5, 6, 7] (by kernel_rfl)  _ _ _ (by kernel_rfl) ?_
      refine qM rfl rfl rfl (qM rfl rfl rfl (qM rfl rfl rfl ?_))
      refine qs_y rfl rfl (yv_cut_hi T.sl22 rfl rfl (h0.now hH41 (n := 2) rfl).is (by omega)) ?_
      refine qM rfl rfl rfl (qM rfl rfl rfl ?_)
      refine qs_y rfl rfl (yv_cut_lo T.sl22 rfl rfl (h0.now hH41 (n := 2) rfl).is (by omega)) ?_
      refine qs_nil ?_
      refine any_allY [4] (by kernel_rfl) rfl ?_
      refine ⟨⟨_, rfl, ?_⟩, trivial⟩
      ·skip
       refine op_fnV rfl rfl rfl hH41 (c44 (Rd.upto (h0.now hH41 (n := 2) rfl) (hi := (B.half l.length : Int).toNat) (by omega)) (by first | (rw [List.length_take]; omega) | (rw [List.length_drop]; omega)) (by first | exact B.inR_take hin _ | exact B.inR_drop hin _)) (fun w42 hH43 => ?_)
       refine ops_nil ?_
       refine ⟨fun _ _ => (hH43.sub (sC (sC sR))), ?_⟩
       refine any_allY [8] (by kernel_rfl) rfl ?_
       refine ⟨⟨_, rfl, ?_⟩, trivial⟩
       ·skip
        refine op_fnV rfl rfl rfl hH43 (c44 (Rd.from (h0.now hH43 (n := 2) rfl) (lo := (B.half l.length : Int).toNat) (by omega)) (by first | (rw [List.length_take]; omega) | (rw [List.length_drop]; omega)) (by first | exact B.inR_take hin _ | exact B.inR_drop hin _)) (fun w44 hH45 => ?_)
        refine ops_nil ?_
        refine ⟨fun _ _ => (hH45.sub (sC (sC sR))), ?_⟩
        refine any_allY [9] (by kernel_rfl) rfl ?_
        refine ⟨⟨_, rfl, ?_⟩, trivial⟩
        ·skip
         refine op_fnV rfl rfl rfl hH45 (c97 ) (fun w46 hH47 => ?_)
         refine ops_nil ?_
         refine ⟨fun _ _ => (hH47.sub (sC (sC sR))), ?_⟩
         refine any_allY [10] (by kernel_rfl) rfl ?_
         refine ⟨⟨_, rfl, ?_⟩, trivial⟩
         ·skip
          refine op_lit (us := [(0, (str (B.both (B.root (l.take (B.half l.length : Int).toNat)) (B.root (l.drop (B.half l.length : Int).toNat)))))]) T.el56_encT [(B.both (B.root (l.take (B.half l.length : Int).toNat)) (B.root (l.drop (B.half l.length : Int).toNat)))] rfl (by decide) rfl (fun a ha => by simp [ha.ev (show ev _ (.tmp 38) = some _ from rfl)] <;> rfl) (fun w => by kernel_rfl) hH47 (fun u48 lo50 hi51 w49 hH52 => ?_)
          refine ops_nil ?_
          refine ⟨fun _ _ => (hH52.sub (sC (sC (sC sR)))), ?_⟩
          refine any_allY [11] (by kernel_rfl) rfl ?_
          refine ⟨⟨_, rfl, ?_⟩, trivial⟩
          ·skip
           refine op_append (n := 2) T.el56_encT rfl rfl rfl hH52 rfl (Heap.rdw T.el56_encT hH52 (n := 0) rfl) (by first | omega | (simp only [List.length_append, List.length_cons, List.length_nil]; omega)) (fun u53 lo55 hi56 w54 hH57 => ?_)
           refine ops_nil ?_
           refine ⟨(fun h => by cases h), ?_⟩
           refine any_takesT [12] (by kernel_rfl)  _ _ _ (by kernel_rfl) ?_
           refine qs_y rfl rfl (yv_assign rfl) (qs_nil ?_)
           refine any_doneY (by kernel_rfl) ?_
           refine thn_n (ret ?_)
           have hH58 := (hH57.sub (sC (sC sR)))
           refine fin (hH58.front (n := 1) rfl) (fun w' hf => (res1 rfl (show RV _ _ _ (.tmp 2) _ from rfl))) (fun w' hf => ?_)
           first | (rw [B.strs_nil (by omega)]; exact Heap.own hf (n := 0) rfl) | (rw [B.strs_one (by omega)]; exact Heap.own hf (n := 0) rfl) | (rw [B.strs_two (by omega)]; exact Heap.own hf (n := 0) rfl)
theorem c48 {v : Value} {l : List En} {w : World} (h0 : Rd encE 5 v l w) (hn : l.length ≤ 64) (hin : B.InR l) : Fn Tryz.prog 48 #[v] w (fun u w => Own 9 1 encT u (B.strs l) w) := by
 induction hl : l.length using Nat.strongRecOn generalizing v l w with
 | _ n ih =>
  subst hl
  exact c48r h0 hn hin (fun k1 k2 k3 k4 => ih _ k2 k1 k3 k4 rfl)
end Go.Fip
namespace Go.Fip.B
open Go.Fip
theorem half_mid {n m : Nat} (hn : n ≤ 64) (h2 : 2 ≤ n) (h : half n < m) (hm : m ≤ n) : half m = half n := by
  unfold half at *
  repeat' split
  all_goals first | rfl | (exfalso; omega) | skip
  all_goals (repeat' split at h) <;> omega
theorem lastW_end {l : List UInt64} {x : UInt64} : lastW (l ++ [x]) = x := by
  unfold lastW
  rw [List.length_append, List.length_singleton, show ((l.length + 1 : Nat) : Int) - 1 = (l.length : Int) by omega, nth_nat (by rw [List.length_append, List.length_singleton]; omega), List.getElem_append_right (Nat.le_refl _)]
  simp
theorem take_end {α : Type} {l : List α} {x : α} : (l ++ [x]).take ((l ++ [x]).length - 1) = l := by
  rw [List.length_append, List.length_singleton, Nat.add_sub_cancel]; exact List.take_left' rfl
theorem snoc_ne {α : Type} {l : List α} {x : α} : ¬ (l ++ [x]).length = 0 := by rw [List.length_append, List.length_singleton]; omega
theorem gw_rt : ∀ (n : Nat) (l : List En) (m : Nat) (w : Bool) (o : UInt64), l.length = n → n ≤ 64 → 1 ≤ m → m ≤ n → (w = true → o = root (l.take m)) →
    (rt m n (gw l m w) w o).1 = root (l.take m) ∧ (rt m n (gw l m w) w o).2.1 = root l ∧ (rt m n (gw l m w) w o).2.2 = true := by
  intro n
  induction n using Nat.strongRecOn with
  | _ n ih =>
    intro l m w o hl hn h1 hm ho
    by_cases he : m = n
    · have ht : l.take m = l := List.take_of_length_le (by omega)
      cases w with
      | true =>
        have hg := gw_all (l := l) h1 (by omega)
        rw [hg, rt_all h1 he, ho rfl, ht]
        exact ⟨rfl, rfl, rfl⟩
      | false =>
        have hg := gw_one (l := l) h1 (by omega)
        rw [hg, rt_last h1 he (by simp), ht]
        exact ⟨rfl, rfl, rfl⟩
    · have hlt : m < n := by omega
      have hh := half_lt (n := n) (by omega)
      have hr := root_two (l := l) (by omega)
      rw [hl] at hr
      by_cases hk : m ≤ half n
      · have hg := gw_left (l := l) (w := w) h1 (by omega) (by rw [hl]; exact hk)
        rw [hl] at hg
        rw [hg]
        have tt : (l.take (half n)).take m = l.take m := by rw [List.take_take, Nat.min_eq_left hk]
        obtain ⟨e1, e2, e3⟩ := ih (half n) (by omega) (l.take (half n)) m w o (by rw [List.length_take]; omega) (by omega) h1 hk (by rw [tt]; exact ho)
        rw [rt_l1 h1 hlt snoc_ne hk, rt_l2 h1 hlt snoc_ne hk, rt_l3 h1 hlt snoc_ne hk, take_end, lastW_end, e1, e2, e3, tt, hr]
        exact ⟨rfl, rfl, rfl⟩
      · have hg := gw_right (l := l) (w := w) h1 (by omega) (by rw [hl]; exact hk)
        rw [hl] at hg
        rw [hg]
        have hmid := half_mid hn (by omega) (by omega) hm
        obtain ⟨e1, e2, e3⟩ := ih (n - half n) (by omega) (l.drop (half n)) (m - half n) false o (by rw [List.length_drop]; omega) (by omega) (by omega) (by omega) (fun c => by cases c)
        rw [rt_r1 h1 hlt snoc_ne hk, rt_r2 h1 hlt snoc_ne hk, rt_r3 h1 hlt snoc_ne hk, take_end, lastW_end, e1, e2, e3, hr]
        refine ⟨?_, rfl, rfl⟩
        have hm2 := root_two (l := l.take m) (by rw [List.length_take]; omega)
        rw [List.length_take, Nat.min_eq_left (by omega), hmid, List.take_take, Nat.min_eq_left (by omega), List.drop_take] at hm2
        exact hm2.symm
theorem half_pow {n d : Nat} (h64 : n ≤ 64) (h2 : 2 ≤ n) (h : n ≤ 2 * 2 ^ d) : half n ≤ 2 ^ d := by
  have key : ∀ k : Nat, k < 6 → 2 ^ k < n → half n ≤ 2 ^ d ∨ True := fun _ _ _ => .inr trivial
  by_cases h6 : 6 ≤ d
  · have : 2 ^ 6 ≤ 2 ^ d := Nat.pow_le_pow_right (by decide) h6
    have := half_lt h2
    have : (2 : Nat) ^ 6 = 64 := rfl
    omega
  · have hd : d = 0 ∨ d = 1 ∨ d = 2 ∨ d = 3 ∨ d = 4 ∨ d = 5 := by omega
    unfold half
    rcases hd with rfl | rfl | rfl | rfl | rfl | rfl <;> simp at h ⊢ <;> (repeat' split) <;> omega
theorem gw_le : ∀ (d : Nat) (l : List En) (m : Nat) (w : Bool), l.length ≤ 2 ^ d → l.length ≤ 64 → 1 ≤ m → m ≤ l.length → (gw l m w).length ≤ d + 1 := by
  intro d
  induction d with
  | zero =>
    intro l m w h0 _ h1 hm
    have : l.length = 1 := by have : 2 ^ 0 = 1 := rfl; omega
    cases w with
    | true => rw [gw_all h1 (by omega)]; simp
    | false => rw [gw_one h1 (by omega)]; simp
  | succ d ih =>
    intro l m w h0 h64 h1 hm
    by_cases he : m = l.length
    · cases w with
      | true => rw [gw_all h1 he]; simp
      | false => rw [gw_one h1 he]; simp
    · have hh := half_lt (n := l.length) (by omega)
      have hp : 2 ^ (d + 1) = 2 * 2 ^ d := by rw [Nat.pow_succ]; omega
      have hhp : half l.length ≤ 2 ^ d := half_pow h64 (by omega) (by omega)
      have hhe := half_le (n := l.length) (by omega) h64
      by_cases hk : m ≤ half l.length
      · rw [gw_left h1 (by omega) hk, List.length_append, List.length_singleton]
        have := ih (l.take (half l.length)) m w (by rw [List.length_take]; omega) (by rw [List.length_take]; omega) h1 (by rw [List.length_take]; omega)
        omega
      · rw [gw_right h1 (by omega) hk, List.length_append, List.length_singleton]
        have := ih (l.drop (half l.length)) (m - half l.length) false (by rw [List.length_drop]; omega) (by rw [List.length_drop]; omega) (by omega) (by rw [List.length_drop]; omega)
        omega
theorem cg_self {l : List En} {m : Nat} (h24 : l.length ≤ 24) (h1 : 1 ≤ m) (hm : m ≤ l.length) : cg (m : Int) (l.length : Int) (gw l m true) (root (l.take m)) (root l) = 0 := by
  obtain ⟨e1, e2, e3⟩ := gw_rt l.length l m true (root (l.take m)) rfl (by omega) h1 hm (fun _ => rfl)
  exact cg4 (by omega) (by omega) (by rw [Int.toNat_natCast, Int.toNat_natCast]; exact ⟨e3, e1, e2⟩)
end Go.Fip.B
namespace Go.Fip.B
open Go.Fip
def gsF : Nat → Nat → Nat → List UInt64 → Bool → UInt64 → List (List UInt8)
  | 0, _, _, _, _, _ => []
  | f + 1, m, n, g, w, o => if m = n ∧ w = true then [] else if g.length = 0 then [] else if m = n then [] else
    if m ≤ half n then gsF f m (half n) (g.take (g.length - 1)) w o ++ [both (rt m (half n) (g.take (g.length - 1)) w o).2.1 (lastW g)]
    else gsF f (m - half n) (n - half n) (g.take (g.length - 1)) false o ++ [both (lastW g) (rt (m - half n) (n - half n) (g.take (g.length - 1)) false o).1, both (lastW g) (rt (m - half n) (n - half n) (g.take (g.length - 1)) false o).2.1]
def gs (m n : Nat) (g : List UInt64) (w : Bool) (o : UInt64) : List (List UInt8) := gsF n m n g w o
theorem gsF_fuel : ∀ (f g m n : Nat) (p : List UInt64) (w : Bool) (o : UInt64), n ≤ f → n ≤ g → 1 ≤ m → m ≤ n → gsF f m n p w o = gsF g m n p w o
  | 0, _, _, _, _, _, _, h, _, h1, h2 => by omega
  | f + 1, 0, _, _, _, _, _, _, h, h1, h2 => by omega
  | f + 1, g + 1, m, n, p, w, o, h1, h2, h3, h4 => by
    unfold gsF
    by_cases hm : m = n
    · simp only [hm, true_and, if_true]
    · have hh := half_lt (n := n) (by omega)
      simp only [hm, false_and, if_false]
      by_cases hp : p.length = 0
      · rw [if_pos hp, if_pos hp]
      · rw [if_neg hp, if_neg hp]
        by_cases hk : m ≤ half n
        · rw [if_pos hk, if_pos hk, gsF_fuel f g m (half n) _ w o (by omega) (by omega) h3 hk]
        · rw [if_neg hk, if_neg hk, gsF_fuel f g (m - half n) (n - half n) _ false o (by omega) (by omega) (by omega) (by omega)]
variable {m n : Nat} {g : List UInt64} {w : Bool} {o : UInt64}
theorem gs_all (h1 : 1 ≤ m) (h : m = n) : gs m n g w o = [] := by
  unfold gs
  obtain ⟨k, rfl⟩ : ∃ k, n = k + 1 := ⟨n - 1, by omega⟩
  unfold gsF
  by_cases hw : m = k + 1 ∧ w = true
  · rw [if_pos hw]
  rw [if_neg hw]
  by_cases hg : g.length = 0
  · rw [if_pos hg]
  · rw [if_neg hg, if_pos h]
theorem gs_none (hg : g.length = 0) : gs m n g w o = [] := by
  unfold gs
  cases n with
  | zero => rfl
  | succ k =>
    unfold gsF
    by_cases hw : m = k + 1 ∧ w = true
    · rw [if_pos hw]
    · rw [if_neg hw, if_pos hg]
theorem gs_left (h1 : 1 ≤ m) (h : m < n) (hg : ¬ g.length = 0) (hk : m ≤ half n) : gs m n g w o = gs m (half n) (g.take (g.length - 1)) w o ++ [both (rt m (half n) (g.take (g.length - 1)) w o).2.1 (lastW g)] := by
  have hh := half_lt (n := n) (by omega)
  unfold gs
  obtain ⟨k, rfl⟩ : ∃ k, n = k + 1 := ⟨n - 1, by omega⟩
  conv => lhs; unfold gsF
  rw [if_neg (fun c => by have := c.1; omega), if_neg hg, if_neg (by omega), if_pos hk, gsF_fuel k (half (k + 1)) m (half (k + 1)) _ w o (by omega) (Nat.le_refl _) h1 hk]
theorem gs_right (h1 : 1 ≤ m) (h : m < n) (hg : ¬ g.length = 0) (hk : ¬ m ≤ half n) : gs m n g w o = gs (m - half n) (n - half n) (g.take (g.length - 1)) false o ++ [both (lastW g) (rt (m - half n) (n - half n) (g.take (g.length - 1)) false o).1, both (lastW g) (rt (m - half n) (n - half n) (g.take (g.length - 1)) false o).2.1] := by
  have hh := half_lt (n := n) (by omega)
  unfold gs
  obtain ⟨k, rfl⟩ : ∃ k, n = k + 1 := ⟨n - 1, by omega⟩
  conv => lhs; unfold gsF
  rw [if_neg (fun c => by have := c.1; omega), if_neg hg, if_neg (by omega), if_neg hk, gsF_fuel k (k + 1 - half (k + 1)) (m - half (k + 1)) (k + 1 - half (k + 1)) _ false o (by omega) (Nat.le_refl _) (by omega) (by omega)]
theorem gs_len : ∀ (n m : Nat) (g : List UInt64) (w : Bool) (o : UInt64), 1 ≤ m → m ≤ n → (gs m n g w o).length ≤ 2 * n ∧ ∀ x ∈ gs m n g w o, x.length = 33 := by
  intro n
  induction n using Nat.strongRecOn with
  | _ n ih =>
    intro m g w o h1 hm
    by_cases he : m = n
    · rw [gs_all h1 he]; exact ⟨by simp, by simp⟩
    by_cases hg : g.length = 0
    · rw [gs_none hg]; exact ⟨by simp, by simp⟩
    have hh := half_lt (n := n) (by omega)
    by_cases hk : m ≤ half n
    · rw [gs_left h1 (by omega) hg hk]
      obtain ⟨e1, e2⟩ := ih (half n) (by omega) m (g.take (g.length - 1)) w o h1 hk
      refine ⟨by rw [List.length_append, List.length_singleton]; omega, fun x hx => ?_⟩
      rcases List.mem_append.1 hx with hx | hx
      · exact e2 x hx
      · rw [List.mem_singleton.1 hx]; exact both_len _ _
    · rw [gs_right h1 (by omega) hg hk]
      obtain ⟨e1, e2⟩ := ih (n - half n) (by omega) (m - half n) (g.take (g.length - 1)) false o (by omega) (by omega)
      refine ⟨by rw [List.length_append]; simp only [List.length_cons, List.length_nil]; omega, fun x hx => ?_⟩
      rcases List.mem_append.1 hx with hx | hx
      · exact e2 x hx
      · simp only [List.mem_cons, List.not_mem_nil, or_false] at hx
        rcases hx with rfl | rfl <;> exact both_len _ _
theorem gs_eq {S : List (List UInt8)} (hS : inj S) : ∀ (n m : Nat) (g : List UInt64) (w : Bool) (o : UInt64) (a l : List En), l.length = n → a.length = m → n ≤ 64 → 1 ≤ m → m ≤ n → InR a → InR l →
    (∀ x ∈ strs a, x ∈ S) → (∀ x ∈ strs l, x ∈ S) → (∀ x ∈ gs m n g w o, x ∈ S) → (rt m n g w o).2.2 = true → (rt m n g w o).1 = root a → (rt m n g w o).2.1 = root l → a = l.take m := by
  intro n
  induction n using Nat.strongRecOn with
  | _ n ih =>
    intro m g w o a l hl ha h64 h1 hm hia hil hsa hsl hsg hok hra hrl
    by_cases he : m = n
    · have hee : root a = root l := by
        cases w with
        | true => rw [rt_all h1 he] at hra hrl; exact hra.symm.trans hrl
        | false =>
          by_cases hg : g.length = 0
          · rw [rt_none h1 hm (fun c => by cases c.2) hg] at hok; cases hok
          · rw [rt_last h1 he hg] at hra hrl; exact hra.symm.trans hrl
      rw [List.take_of_length_le (by omega)]
      exact root_eq hS n a l (by omega) hl hia hil hsa hsl hee
    · by_cases hg : g.length = 0
      · rw [rt_none h1 hm (fun c => he c.1) hg] at hok; cases hok
      have hlt : m < n := by omega
      have hh := half_lt (n := n) (by omega)
      have hr := root_two (l := l) (by omega)
      have hst := strs_mem_top (l := l) (by omega)
      have hsL := strs_mem_left (l := l) (by omega)
      have hsR := strs_mem_right (l := l) (by omega)
      rw [hl] at hr hst hsL hsR
      by_cases hk : m ≤ half n
      · rw [gs_left h1 hlt hg hk] at hsg
        rw [rt_l3 h1 hlt hg hk] at hok
        rw [rt_l1 h1 hlt hg hk] at hra
        rw [rt_l2 h1 hlt hg hk, hr] at hrl
        have h2 := hS _ (hsg _ (List.mem_append_right _ (List.mem_singleton.2 rfl))) _ (hsl _ hst) hrl
        have h3 := ih (half n) (by omega) m (g.take (g.length - 1)) w o a (l.take (half n)) (by rw [List.length_take]; omega) ha (by omega) h1 hk hia (inR_take hil _) hsa (fun x hx => hsl x (hsL x hx)) (fun x hx => hsg x (List.mem_append_left _ hx)) hok hra (both_inj h2).1
        rw [h3, List.take_take, Nat.min_eq_left hk]
      · rw [gs_right h1 hlt hg hk] at hsg
        rw [rt_r3 h1 hlt hg hk] at hok
        rw [rt_r1 h1 hlt hg hk] at hra
        rw [rt_r2 h1 hlt hg hk, hr] at hrl
        have hmid := half_mid h64 (by omega) (by omega) hm
        have har := root_two (l := a) (by omega)
        have hat := strs_mem_top (l := a) (by omega)
        have haL := strs_mem_left (l := a) (by omega)
        have haR := strs_mem_right (l := a) (by omega)
        rw [ha, hmid] at har hat haL haR
        rw [har] at hra
        have h2 := hS _ (hsg _ (List.mem_append_right _ (by simp))) _ (hsl _ hst) hrl
        have h3 := hS _ (hsg _ (List.mem_append_right _ (by simp))) _ (hsa _ hat) hra
        obtain ⟨h4, h5⟩ := both_inj h2
        obtain ⟨h6, h7⟩ := both_inj h3
        have e1 := root_eq hS (half n) (a.take (half n)) (l.take (half n)) (by rw [List.length_take]; omega) (by rw [List.length_take]; omega) (inR_take hia _) (inR_take hil _) (fun x hx => hsa x (haL x hx)) (fun x hx => hsl x (hsL x hx)) (h6.symm.trans h4)
        have e2 := ih (n - half n) (by omega) (m - half n) (g.take (g.length - 1)) false o (a.drop (half n)) (l.drop (half n)) (by rw [List.length_drop]; omega) (by rw [List.length_drop]; omega) (by omega) (by omega) (by omega) (inR_drop hia _) (inR_drop hil _)
          (fun x hx => hsa x (haR x hx)) (fun x hx => hsl x (hsR x hx)) (fun x hx => hsg x (List.mem_append_left _ hx)) hok h7 h5
        rw [← List.take_append_drop (half n) a, e1, e2]
        have e3 := List.take_append_drop (half n) (l.take m)
        rw [List.take_take, Nat.min_eq_left (by omega), List.drop_take] at e3
        exact e3
theorem begun_coll {a l : List En} {g : List UInt64} (ha : ck a = 0) (hl : ck l = 0) (h1 : 1 ≤ a.length) (hm : a.length ≤ l.length) (hz : cg (a.length : Int) (l.length : Int) g (root a) (root l) = 0) (hne : ¬ a = l.take a.length) : coll (strs a ++ strs l ++ gs a.length l.length g true (root a)) := by
  obtain ⟨h24, hil, _⟩ := ck_iff.1 hl
  obtain ⟨_, hia, _⟩ := ck_iff.1 ha
  refine Decidable.byContradiction fun hc => hne ?_
  have h3 : (rt a.length l.length g true (root a)).2.2 = true ∧ (rt a.length l.length g true (root a)).1 = root a ∧ (rt a.length l.length g true (root a)).2.1 = root l := by
    refine Decidable.byContradiction fun h => ?_
    rw [cg3 (by omega) (by omega) (by rw [Int.toNat_natCast, Int.toNat_natCast]; exact h)] at hz
    omega
  exact gs_eq (inj_of hc) l.length a.length g true (root a) a l rfl rfl (by omega) h1 hm hia hil (fun x hx => List.mem_append_left _ (List.mem_append_left _ hx)) (fun x hx => List.mem_append_left _ (List.mem_append_right _ hx)) (fun x hx => List.mem_append_right _ hx) h3.1 h3.2.1 h3.2.2
theorem cg_two {m n : Int} {r : UInt64} (h : 1 ≤ n ∧ n ≤ 24) (h2 : 1 ≤ m ∧ m ≤ n) : cg m n g o r = 0 ∨ cg m n g o r = 25 := by
  by_cases h3 : (rt m.toNat n.toNat g true o).2.2 = true ∧ (rt m.toNat n.toNat g true o).1 = o ∧ (rt m.toNat n.toNat g true o).2.1 = r
  · exact .inl (cg4 h h2 h3)
  · exact .inr (cg3 h h2 h3)
end Go.Fip.B
namespace Go.Fip
open Go.Proofs Go.RowKit
theorem Heap.tup3 {E sz n : Nat} {α : Type} {enc : α → List Value} {H : List Item} {w : World} {lo hi : Nat} {p b c : Value} {xs : List α} (hH : Heap H w)
  (hn : H[n]? = some ⟨lo, hi, fun w => ∃ q, (Value.tuple #[p, b, c] : Value) = .tuple #[q, b, c] ∧ Own E sz enc q xs w⟩) : Heap (H.set n (ow lo hi E sz enc p xs)) w := by
 have h1 := hH.weaken hn (φ := Own E sz enc p xs) (fun w' h => by
  obtain ⟨q, e, h⟩ := h
  cases e
  exact h)
 have hlt : n < H.length := (List.getElem?_eq_some_iff.1 hn).1
 have h2 := Heap.toOw (n := n) h1 (by rw [List.getElem?_set_self hlt])
 rwa [List.set_set] at h2
theorem tup3R {p : UInt64 × UInt64 × Bool} {q : Value} {a b : UInt64} {c : Bool} (h : p = (a, b, c)) : Value.tuple #[q, .int .u64 (a.toNat : Int), .int .u64 (b.toNat : Int)] = .tuple #[q, .int .u64 (p.1.toNat : Int), .int .u64 (p.2.1.toNat : Int)] := by subst h; rfl
theorem c98r {v : Value} {p : List UInt64} {m n : Nat} {wh : Bool} {o : UInt64} {w : World} (h0 : Rd encW 1 v p w) (hp : p.length ≤ 1000) (hm1 : 1 ≤ m) (hm : m ≤ n) (hn : n ≤ 64) (ih : ∀ {v1 : Value} {p1 : List UInt64} {m1 n1 : Nat} {w2 : Bool} {o1 : UInt64} {w1 : World}, Rd encW 1 v1 p1 w1 → n1 < n → p1.length ≤ 1000 → 1 ≤ m1 → m1 ≤ n1 → Fn Tryz.prog 98 #[.int .i64 (m1 : Int), .int .i64 (n1 : Int), v1, .bool w2, .int .u64 (o1.toNat : Int)] w1 (fun u w => ∃ q, u = .tuple #[q, .int .u64 ((B.rt m1 n1 p1 w2 o1).1.toNat : Int), .int .u64 ((B.rt m1 n1 p1 w2 o1).2.1.toNat : Int)] ∧ Own 9 1 encT q (B.gs m1 n1 p1 w2 o1) w))  :
  Fn Tryz.prog 98 [(.int .i64 (m : Int)), (.int .i64 (n : Int)), v, (.bool wh), (.int .u64 (o.toNat : Int))].toArray w (fun u w => ∃ q, u = .tuple #[q, .int .u64 ((B.rt m n p wh o).1.toNat : Int), .int .u64 ((B.rt m n p wh o).2.1.toNat : Int)] ∧ Own 9 1 encT q (B.gs m n p wh o) w) := by
 refine fn_of' (args := [(.int .i64 (m : Int)), (.int .i64 (n : Int)), v, (.bool wh), (.int .u64 (o.toNat : Int))]) Tryz.func98 rfl (ent Tryz.func98 (by kernel_rfl) rfl) rfl rfl (fun hH => ?_)
 refine seq (region (oA hH rfl rfl (oA hH rfl rfl (oA hH rfl rfl (ops_nil (thn_n (seq (region (oM hH rfl rfl ?_)))))))))
 refine ops_y hH rfl rfl (yv_len T.sl39 rfl (h0.now hH (n := 0) rfl).is) ?_
 refine oA hH rfl rfl (ops_nil (thn_n (seq (seq (region (oM hH rfl rfl (oM hH rfl rfl ?_)))))))
 refine ops_y hH rfl rfl (yv_eql rfl rfl) ?_
 refine oM hH rfl rfl ?_
 by_cases hc1 : (m : Int) = (n : Int)
 ·skip
  have hlast : m = n := by omega
  refine guard_yes rfl rfl (dT hc1) ?_
  refine oM hH rfl rfl ?_
  refine ops_y hH rfl rfl (yv_pick_t rfl (dT hc1) rfl) ?_
  refine ops_nil (thn_n ?_)
  by_cases hc2 : wh = true
  ·skip
   have hwt : wh = true := by first | assumption | (simp_all; done)
   refine cond_t rfl hc2 ?_
   refine seq (region (oM hH rfl rfl (oM hH rfl rfl (oA hH rfl rfl (oA hH rfl rfl (oA hH rfl rfl (ops_nil (thn_n (ret ?_)))))))))
   refine thn_r ?_
   refine fin hH (fun w' hf => (res3 rfl (show RV _ _ _ (.tmp 10) _ from rfl) (show RV _ _ _ (.tmp 11) _ from rfl) (show RV _ _ _ (.tmp 12) _ from rfl))) (fun w' hf => ?_)
   subst hwt
   exact ⟨_, tup3R (p := B.rt m n p true o) (B.rt_all hm1 (by omega)), by rw [B.gs_all hm1 (by omega)]; exact own_nil⟩
  ·skip
   have hnw : ¬ (m = n ∧ wh = true) := fun h => by first | exact absurd h.2 ‹_› | omega | (simp_all; done)
   refine cond_f rfl (Bool.eq_false_iff.2 hc2) ?_
   refine skip (thn_n (seq (seq (region (oM hH rfl rfl ?_)))))
   refine ops_y hH rfl rfl (yv_eql rfl rfl) ?_
   refine ops_nil (thn_n ?_)
   by_cases hc3 : (p.length : Int) = 0
   ·skip
    have hp0 : p.length = 0 := by omega
    refine cond_t rfl (dT hc3) ?_
    refine seq (region (oA hH rfl rfl (oA hH rfl rfl (oA hH rfl rfl (ops_nil (thn_n (ret (thn_r ?_))))))))
    refine fin hH (fun w' hf => (res3 rfl (show RV _ _ _ (.tmp 10) _ from rfl) (show RV _ _ _ (.tmp 11) _ from rfl) (show RV _ _ _ (.tmp 12) _ from rfl))) (fun w' hf => ?_)
    exact ⟨_, tup3R (p := B.rt m n p wh o) (a := 0) (b := 0) (B.rt_none hm1 hm (fun c => by first | exact hnw c | exact absurd c.1 (by omega)) hp0), by rw [B.gs_none hp0]; exact own_nil⟩
   ·skip
    refine cond_f rfl (dF hc3) ?_
    refine skip (thn_n (seq (region (oM hH rfl rfl (oM hH rfl rfl ?_)))))
    refine ops_y hH rfl rfl (yv_sub rfl rfl (by omega)) ?_
    refine ops_y hH rfl rfl (yv_index T.sl39 rfl rfl (h0.now hH (n := 0) rfl).is (by omega)) ?_
    refine ops_y hH rfl rfl (yv_cast (congrArg (fun z : UInt64 => (z.toNat : Int)) (B.lastW_at (by omega))) (yv_load T.one32 rfl (fun _ hw => Rd.at (h0.now hw (n := 0) rfl) (i := (p.length : Int) - 1) (by omega) (j := 0) rfl))) ?_
    refine oA hH rfl rfl (ops_nil (thn_n (seq (seq (region (oM hH rfl rfl (oM hH rfl rfl ?_)))))))
    refine ops_y hH rfl rfl (yv_eql rfl rfl) ?_
    refine ops_nil (thn_n ?_)
    refine cond_t rfl (dT hc1) ?_
    refine seq (region (oM hH rfl rfl (oM hH rfl rfl (oA hH rfl rfl (oA hH rfl rfl (oA hH rfl rfl (ops_nil (thn_n (ret ?_)))))))))
    refine thn_r ?_
    refine fin hH (fun w' hf => (res3 rfl (show RV _ _ _ (.tmp 10) _ from rfl) (show RV _ _ _ (.tmp 11) _ from rfl) (show RV _ _ _ (.tmp 12) _ from rfl))) (fun w' hf => ?_)
    have hwf : wh = false := Bool.eq_false_iff.2 (fun c => hnw ⟨hlast, c⟩)
    subst hwf
    exact ⟨_, tup3R (p := B.rt m n p false o) (B.rt_last hm1 hlast (by omega)), by rw [B.gs_all hm1 hlast]; exact own_nil⟩
 ·skip
  refine guard_no rfl rfl (dF hc1) rfl ?_
  refine ops_y hH rfl rfl (yv_pick_f rfl (dF hc1) rfl) ?_
  refine ops_nil (thn_n ?_)
  refine cond_f rfl rfl ?_
  refine skip (thn_n (seq (seq (region (oM hH rfl rfl ?_)))))
  refine ops_y hH rfl rfl (yv_eql rfl rfl) ?_
  refine ops_nil (thn_n ?_)
  by_cases hc4 : (p.length : Int) = 0
  ·skip
   have hp0 : p.length = 0 := by omega
   refine cond_t rfl (dT hc4) ?_
   refine seq (region (oA hH rfl rfl (oA hH rfl rfl (oA hH rfl rfl (ops_nil (thn_n (ret (thn_r ?_))))))))
   refine fin hH (fun w' hf => (res3 rfl (show RV _ _ _ (.tmp 10) _ from rfl) (show RV _ _ _ (.tmp 11) _ from rfl) (show RV _ _ _ (.tmp 12) _ from rfl))) (fun w' hf => ?_)
   exact ⟨_, tup3R (p := B.rt m n p wh o) (a := 0) (b := 0) (B.rt_none hm1 hm (fun c => by first | exact hnw c | exact absurd c.1 (by omega)) hp0), by rw [B.gs_none hp0]; exact own_nil⟩
  ·skip
   refine cond_f rfl (dF hc4) ?_
   refine skip (thn_n (seq (region (oM hH rfl rfl (oM hH rfl rfl ?_)))))
   refine ops_y hH rfl rfl (yv_sub rfl rfl (by omega)) ?_
   refine ops_y hH rfl rfl (yv_index T.sl39 rfl rfl (h0.now hH (n := 0) rfl).is (by omega)) ?_
   refine ops_y hH rfl rfl (yv_cast (congrArg (fun z : UInt64 => (z.toNat : Int)) (B.lastW_at (by omega))) (yv_load T.one32 rfl (fun _ hw => Rd.at (h0.now hw (n := 0) rfl) (i := (p.length : Int) - 1) (by omega) (j := 0) rfl))) ?_
   refine oA hH rfl rfl (ops_nil (thn_n (seq (seq (region (oM hH rfl rfl (oM hH rfl rfl ?_)))))))
   refine ops_y hH rfl rfl (yv_eql rfl rfl) ?_
   refine ops_nil (thn_n ?_)
   refine cond_f rfl (dF hc1) ?_
   refine skip (thn_n (seq ?_))
   have hbh := B.half_lt (n := n) (by omega)
   have hpt : (p.take (p.length - 1)).length = p.length - 1 := by rw [List.length_take]; omega
   refine region (oM hH rfl rfl ?_)
   refine op_fnV rfl rfl rfl hH (c96 (by omega)) (fun w5 hH6 => ?_)
   refine oA hH6 rfl rfl (ops_nil (thn_n (seq (seq (region (oM hH6 rfl rfl (oM hH6 rfl rfl ?_)))))))
   refine ops_y hH6 rfl rfl (yv_leq rfl rfl) ?_
   refine ops_nil (thn_n ?_)
   by_cases hc7 : (m : Int) ≤ (B.half n : Int)
   ·skip
    have hlt : m ≤ B.half n := by omega
    have hgl := (B.gs_len (B.half n) m (p.take (p.length - 1)) wh o hm1 hlt).1
    refine cond_t rfl (dT hc7) ?_
    refine seq (region (oM hH6 rfl rfl (oM hH6 rfl rfl (oM hH6 rfl rfl (oM hH6 rfl rfl ?_)))))
    refine ops_y hH6 rfl rfl (yv_cast (show (p.length : Int) - 1 = ((p.length - 1 : Nat) : Int) by omega) (yv_sub rfl rfl (by omega))) ?_
    refine ops_y hH6 rfl rfl (yv_cut_hi T.sl39 rfl rfl (h0.now hH6 (n := 0) rfl).is (by omega)) ?_
    refine oM hH6 rfl rfl (oM hH6 rfl rfl ?_)
    refine op_fn rfl rfl rfl hH6 (ih (m1 := m) (n1 := (B.half n)) (p1 := (p.take (p.length - 1))) (w2 := wh) (o1 := o) (Rd.upto (h0.now hH6 (n := 0) rfl) (hi := ((p.length - 1 : Nat) : Int).toNat) (by omega)) (by omega) (by rw [List.length_take]; omega) (by omega) (by omega)) (fun u10 w8 lo11 hi12 hH9 hv13 => ?_)
    obtain ⟨p15, hu, -⟩ := hv13
    subst hu
    have hH14 := Heap.tup3 hH9 (n := 0) rfl
    refine oM hH14 rfl rfl (ops_y hH14 rfl rfl (yv_extract rfl rfl) (ops_y hH14 rfl rfl (yv_extract rfl rfl) (ops_y hH14 rfl rfl (yv_extract rfl rfl) (oA hH14 rfl rfl (oA hH14 rfl rfl (oA hH14 rfl rfl (ops_nil (thn_n (seq ?_)))))))))
    refine region (oM hH14 rfl rfl (oM hH14 rfl rfl ?_))
    refine op_fnV rfl rfl rfl hH14 (c97 ) (fun w16 hH17 => ?_)
    refine oA hH17 rfl rfl (ops_nil (thn_n (seq (region (oM hH17 rfl rfl (oM hH17 rfl rfl ?_))))))
    refine op_lit (us := [(0, (str (B.both ((B.rt m (B.half n) (p.take (p.length - 1)) wh o).2.1) (B.lastW p))))]) T.el56_encT [(B.both ((B.rt m (B.half n) (p.take (p.length - 1)) wh o).2.1) (B.lastW p))] rfl (by decide) rfl (fun a ha => by simp [ha.ev (show ev _ (.tmp 69) = some _ from rfl)] <;> rfl) (fun w => by kernel_rfl) hH17 (fun u18 lo20 hi21 w19 hH22 => ?_)
    refine op_append (n := 1) T.el56_encT rfl rfl rfl hH22 rfl (Heap.rdw T.el56_encT hH22 (n := 0) rfl) (by simp only [Int.toNat_natCast, List.length_cons, List.length_nil]; omega) (fun u23 lo25 hi26 w24 hH27 => ?_)
    refine oM hH27 rfl rfl (oM hH27 rfl rfl ?_)
    refine op_fnV rfl rfl rfl hH27 (c69 (l := (B.both ((B.rt m (B.half n) (p.take (p.length - 1)) wh o).2.1) (B.lastW p))) (by rw [B.both_len]; omega)) (fun w28 hH29 => ?_)
    refine oA hH29 rfl rfl (oA hH29 rfl rfl (oA hH29 rfl rfl (ops_nil (thn_n (ret (thn_r ?_))))))
    have hH30 := (hH29.sub (sC sR))
    refine fin (hH30.front (n := 1) rfl) (fun w' hf => (res3 rfl (show RV _ _ _ (.tmp 10) _ from rfl) (show RV _ _ _ (.tmp 11) _ from rfl) (show RV _ _ _ (.tmp 12) _ from rfl))) (fun w' hf => ?_)
    refine ⟨_, ?_, by rw [B.gs_left hm1 (by omega) (by omega) hlt]; exact Heap.own hf (n := 0) rfl⟩
    rw [B.rt_l1 hm1 (by omega) (by omega) hlt, B.rt_l2 hm1 (by omega) (by omega) hlt]
    rfl
   ·skip
    have hge : ¬ m ≤ B.half n := by omega
    have hgl := (B.gs_len (n - B.half n) (m - B.half n) (p.take (p.length - 1)) false o (by omega) (by omega)).1
    refine cond_f rfl (dF hc7) ?_
    refine skip (thn_n (seq (region (oM hH6 rfl rfl (oM hH6 rfl rfl ?_)))))
    refine ops_y hH6 rfl rfl (yv_cast (show (m : Int) - (B.half n : Int) = ((m - B.half n : Nat) : Int) by omega) (yv_sub rfl rfl (by omega))) ?_
    refine oM hH6 rfl rfl (oM hH6 rfl rfl ?_)
    refine ops_y hH6 rfl rfl (yv_cast (show (n : Int) - (B.half n : Int) = ((n - B.half n : Nat) : Int) by omega) (yv_sub rfl rfl (by omega))) ?_
    refine oM hH6 rfl rfl (oM hH6 rfl rfl ?_)
    refine ops_y hH6 rfl rfl (yv_cast (show (p.length : Int) - 1 = ((p.length - 1 : Nat) : Int) by omega) (yv_sub rfl rfl (by omega))) ?_
    refine ops_y hH6 rfl rfl (yv_cut_hi T.sl39 rfl rfl (h0.now hH6 (n := 0) rfl).is (by omega)) ?_
    refine oM hH6 rfl rfl ?_
    refine op_fn rfl rfl rfl hH6 (ih (m1 := (m - B.half n)) (n1 := (n - B.half n)) (p1 := (p.take (p.length - 1))) (w2 := false) (o1 := o) (Rd.upto (h0.now hH6 (n := 0) rfl) (hi := ((p.length - 1 : Nat) : Int).toNat) (by omega)) (by omega) (by rw [List.length_take]; omega) (by omega) (by omega)) (fun u33 w31 lo34 hi35 hH32 hv36 => ?_)
    obtain ⟨p38, hu, -⟩ := hv36
    subst hu
    have hH37 := Heap.tup3 hH32 (n := 0) rfl
    refine oM hH37 rfl rfl (ops_y hH37 rfl rfl (yv_extract rfl rfl) (ops_y hH37 rfl rfl (yv_extract rfl rfl) (ops_y hH37 rfl rfl (yv_extract rfl rfl) (oA hH37 rfl rfl (oA hH37 rfl rfl (oA hH37 rfl rfl (ops_nil (thn_n (seq ?_)))))))))
    refine region (oM hH37 rfl rfl (oM hH37 rfl rfl ?_))
    refine op_fnV rfl rfl rfl hH37 (c97 ) (fun w39 hH40 => ?_)
    refine oM hH40 rfl rfl (oM hH40 rfl rfl ?_)
    refine op_fnV rfl rfl rfl hH40 (c97 ) (fun w41 hH42 => ?_)
    refine oA hH42 rfl rfl (oA hH42 rfl rfl (ops_nil (thn_n (seq (region (oM hH42 rfl rfl (oM hH42 rfl rfl (oM hH42 rfl rfl ?_))))))))
    refine op_lit (us := [(0, (str (B.both (B.lastW p) ((B.rt (m - B.half n) (n - B.half n) (p.take (p.length - 1)) false o).1)))), (1, (str (B.both (B.lastW p) ((B.rt (m - B.half n) (n - B.half n) (p.take (p.length - 1)) false o).2.1))))]) T.el56_encT [(B.both (B.lastW p) ((B.rt (m - B.half n) (n - B.half n) (p.take (p.length - 1)) false o).1)), (B.both (B.lastW p) ((B.rt (m - B.half n) (n - B.half n) (p.take (p.length - 1)) false o).2.1))] rfl (by decide) rfl (fun a ha => by simp [ha.ev (show ev _ (.tmp 98) = some _ from rfl), ha.ev (show ev _ (.tmp 99) = some _ from rfl)] <;> rfl) (fun w => by kernel_rfl) hH42 (fun u43 lo45 hi46 w44 hH47 => ?_)
    refine op_append (n := 1) T.el56_encT rfl rfl rfl hH47 rfl (Heap.rdw T.el56_encT hH47 (n := 0) rfl) (by simp only [Int.toNat_natCast, List.length_cons, List.length_nil]; omega) (fun u48 lo50 hi51 w49 hH52 => ?_)
    refine oM hH52 rfl rfl ?_
    refine op_fnV rfl rfl rfl hH52 (c69 (l := (B.both (B.lastW p) ((B.rt (m - B.half n) (n - B.half n) (p.take (p.length - 1)) false o).1))) (by rw [B.both_len]; omega)) (fun w53 hH54 => ?_)
    refine oM hH54 rfl rfl ?_
    refine op_fnV rfl rfl rfl hH54 (c69 (l := (B.both (B.lastW p) ((B.rt (m - B.half n) (n - B.half n) (p.take (p.length - 1)) false o).2.1))) (by rw [B.both_len]; omega)) (fun w55 hH56 => ?_)
    refine oA hH56 rfl rfl (oA hH56 rfl rfl (oA hH56 rfl rfl (ops_nil (thn_n (ret ?_)))))
    have hH57 := (hH56.sub (sC sR))
    refine fin (hH57.front (n := 1) rfl) (fun w' hf => (res3 rfl (show RV _ _ _ (.tmp 10) _ from rfl) (show RV _ _ _ (.tmp 11) _ from rfl) (show RV _ _ _ (.tmp 12) _ from rfl))) (fun w' hf => ?_)
    refine ⟨_, ?_, by rw [B.gs_right hm1 (by omega) (by omega) hge]; exact Heap.own hf (n := 0) rfl⟩
    rw [B.rt_r1 hm1 (by omega) (by omega) hge, B.rt_r2 hm1 (by omega) (by omega) hge]
theorem c98 {v : Value} {p : List UInt64} {m n : Nat} {wh : Bool} {o : UInt64} {w : World} (h0 : Rd encW 1 v p w) (hp : p.length ≤ 1000) (hm1 : 1 ≤ m) (hm : m ≤ n) (hn : n ≤ 64) : Fn Tryz.prog 98 #[.int .i64 (m : Int), .int .i64 (n : Int), v, .bool wh, .int .u64 (o.toNat : Int)] w (fun u w => ∃ q, u = .tuple #[q, .int .u64 ((B.rt m n p wh o).1.toNat : Int), .int .u64 ((B.rt m n p wh o).2.1.toNat : Int)] ∧ Own 9 1 encT q (B.gs m n p wh o) w) := by
 induction hl : n using Nat.strongRecOn generalizing v p m n wh o w with
 | _ q ih =>
  subst hl
  exact c98r h0 hp hm1 hm hn (fun k1 k2 k3 k4 k5 => ih _ k2 k1 k3 k4 k5 (by omega) rfl)
theorem c50 {v : Value} {p : List UInt64} {m n : Nat} {o : UInt64} {w : World} (h0 : Rd encW 1 v p w) (hp : p.length ≤ 1000) (hm1 : 1 ≤ m) (hm : m ≤ n) (hn : n ≤ 64)  :
  Fn Tryz.prog 50 [(.int .i64 (m : Int)), (.int .i64 (n : Int)), v, (.int .u64 (o.toNat : Int))].toArray w (fun u w => Own 9 1 encT u (B.gs m n p true o) w) := by
 refine fn_of' (args := [(.int .i64 (m : Int)), (.int .i64 (n : Int)), v, (.int .u64 (o.toNat : Int))]) Tryz.func50 rfl (ent Tryz.func50 (by kernel_rfl) rfl) rfl rfl (fun hH => ?_)
 refine seq (region (oA hH rfl rfl (ops_nil (thn_n (seq (region (oM hH rfl rfl (oM hH rfl rfl (oM hH rfl rfl ?_)))))))))
 refine oM hH rfl rfl ?_
 refine op_fn rfl rfl rfl hH (c98 (m := m) (n := n) (p := p) (wh := true) (o := o) (h0.now hH (n := 0) rfl) (by omega) (by omega) (by omega) (by omega)) (fun u3 w1 lo4 hi5 hH2 hv6 => ?_)
 obtain ⟨p8, hu, -⟩ := hv6
 subst hu
 have hH7 := Heap.tup3 hH2 (n := 0) rfl
 refine oM hH7 rfl rfl (ops_y hH7 rfl rfl (yv_extract rfl rfl) (ops_y hH7 rfl rfl (yv_extract rfl rfl) (ops_y hH7 rfl rfl (yv_extract rfl rfl) (oA hH7 rfl rfl (oA hH7 rfl rfl (oA hH7 rfl rfl (ops_nil (thn_n (seq ?_)))))))))
 refine region (oM hH7 rfl rfl (oA hH7 rfl rfl (ops_nil (thn_n (ret ?_)))))
 refine fin (hH7.front (n := 1) rfl) (fun w' hf => (res1 rfl (show RV _ _ _ (.tmp 8) _ from rfl))) (fun w' hf => ?_)
 exact Heap.own hf (n := 0) rfl
theorem B.begun {l m : List En} {g : List UInt64} (hca : B.ck l = 0) (hcb : B.ck m = 0) (hl1 : 1 ≤ l.length) (hlm : l.length ≤ m.length) : B.cg (l.length : Int) (m.length : Int) g (B.root l) (B.root m) = 0 → ¬ l = m.take (l.length : Int).toNat → B.coll (B.strs l ++ B.strs m ++ B.gs l.length m.length g true (B.root l)) :=
 fun h3 h4 => B.begun_coll hca hcb hl1 hlm h3 h4
theorem B.begun_len {l m : List En} {g : List UInt64} (hl1 : 1 ≤ l.length) (hlm : l.length ≤ m.length) (h : m.length ≤ 24) : (B.strs l ++ B.strs m ++ B.gs l.length m.length g true (B.root l)).length ≤ 1000000 := by
 have h1 := B.strs_len l.length l rfl
 have h2 := B.strs_len m.length m rfl
 have h3 := (B.gs_len m.length l.length g true (B.root l) hl1 hlm).1
 rw [List.length_append, List.length_append]; omega
theorem B.begun_each {l m : List En} {g : List UInt64} (hl : B.InR l) (hm : B.InR m) (hl1 : 1 ≤ l.length) (hlm : l.length ≤ m.length) : ∀ x ∈ B.strs l ++ B.strs m ++ B.gs l.length m.length g true (B.root l), x.length ≤ 1000 := fun x hx =>
 (List.mem_append.1 hx).elim (fun hx => (List.mem_append.1 hx).elim (fun hx => B.strs_each l.length l rfl hl x hx) (fun hx => B.strs_each m.length m rfl hm x hx)) (fun hx => by rw [(B.gs_len m.length l.length g true (B.root l) hl1 hlm).2 x hx]; omega)
theorem c11 {v u z : Value} {l m : List En} {g : List UInt64} {w : World} (h0 : Rd encE 5 v l w) (h1 : Rd encE 5 u m w) (h2 : Rd encW 1 z g w) (hG : Gl w)  :
  Fn Tryz.prog 11 [(.agg #[v]), (.agg #[u]), z].toArray w (fun u _ => u = .bool true) := by
 refine fn_of' (args := [(.agg #[v]), (.agg #[u]), z]) Tryz.func11 rfl (ent Tryz.func11 (by kernel_rfl) rfl) rfl rfl (fun hH => ?_)
 refine seq (region ?_)
 refine op_box (us := [v]) rfl rfl rfl hH (fun b1 w2 hH3 => ?_)
 refine op_box (us := [u]) rfl rfl rfl hH3 (fun b4 w5 hH6 => ?_)
 refine oA hH6 rfl rfl (ops_nil (thn_n (seq (seq (region ?_)))))
 refine ops_y hH6 rfl rfl (yv_loadA (cs := [v]) T.agg24 rfl rfl (fun _ hw => Heap.cellsw hw (n := 1) rfl (k := 0) rfl)) ?_
 refine op_fnV rfl rfl rfl hH6 (c43 (h0.now hH6 (n := 2) rfl)) (fun w7 hH8 => ?_)
 refine ops_y hH8 rfl rfl (yv_not rfl) ?_
 refine oM hH8 rfl rfl ?_
 by_cases hc9 : B.ck l = 0
 ·skip
  refine guard_yes rfl rfl (not_decide_n hc9) ?_
  refine ops_y hH8 rfl rfl (yv_loadA (cs := [u]) T.agg24 rfl rfl (fun _ hw => Heap.cellsw hw (n := 0) rfl (k := 0) rfl)) ?_
  refine guard_yes rfl rfl (not_decide_n hc9) ?_
  refine op_fnV rfl rfl rfl hH8 (c43 (h1.now hH8 (n := 2) rfl)) (fun w10 hH11 => ?_)
  refine guard_yes rfl rfl (not_decide_n hc9) ?_
  refine ops_y hH11 rfl rfl (yv_not rfl) ?_
  refine ops_y hH11 rfl rfl (yv_pick_f rfl (not_decide_n hc9) rfl) ?_
  refine oM hH11 rfl rfl ?_
  by_cases hc12 : B.ck m = 0
  ·skip
   refine guard_yes rfl rfl (not_decide_n hc12) ?_
   refine ops_y hH11 rfl rfl (yv_field T.f24_0 rfl) ?_
   refine guard_yes rfl rfl (not_decide_n hc12) ?_
   refine ops_y hH11 rfl rfl (yv_load T.one22 rfl (fun _ hw => Heap.cellw hw (n := 1) rfl rfl)) ?_
   refine guard_yes rfl rfl (not_decide_n hc12) ?_
   refine ops_y hH11 rfl rfl (yv_len T.sl22 rfl (h0.now hH11 (n := 2) rfl).is) ?_
   refine guard_yes rfl rfl (not_decide_n hc12) ?_
   refine ops_y hH11 rfl rfl (yv_eql rfl rfl) ?_
   refine ops_y hH11 rfl rfl (yv_pick_f rfl (not_decide_n hc12) rfl) ?_
   refine oM hH11 rfl rfl ?_
   by_cases hc13 : (l.length : Int) = 0
   ·skip
    refine guard_no rfl rfl (dT hc13) rfl ?_
    refine guard_no rfl rfl (dT hc13) rfl ?_
    refine guard_no rfl rfl (dT hc13) rfl ?_
    refine guard_no rfl rfl (dT hc13) rfl ?_
    refine guard_no rfl rfl (dT hc13) rfl ?_
    refine guard_no rfl rfl (dT hc13) rfl ?_
    refine guard_no rfl rfl (dT hc13) rfl ?_
    refine ops_y hH11 rfl rfl (yv_pick_t rfl (dT hc13) rfl) ?_
    refine oM hH11 rfl rfl (guard_no rfl rfl rfl rfl (guard_no rfl rfl rfl rfl (guard_no rfl rfl rfl rfl ?_)))
    refine ops_y hH11 rfl rfl (yv_pick_t rfl rfl rfl) ?_
    refine ops_nil (thn_n ?_)
    refine cond_t rfl rfl ?_
    refine seq (region ?_)
    refine op_fnV rfl rfl rfl hH11 (c18 (hG.now hH11 (n := 2) rfl)) (fun w14 hH15 => ?_)
    refine oA hH15 rfl rfl (ops_nil (thn_n (ret (thn_r ?_))))
    have hH16 := (hH15.sub (sC (sC sR)))
    refine fin hH16 (fun w' hf => (res1 rfl (show RV _ _ _ (.tmp 6) _ from rfl))) (fun w' hf => ?_)
    first | rfl | exact hbad.elim
   ·skip
    refine guard_yes rfl rfl (dF hc13) ?_
    refine ops_y hH11 rfl rfl (yv_field T.f24_0 rfl) ?_
    refine guard_yes rfl rfl (dF hc13) ?_
    refine ops_y hH11 rfl rfl (yv_load T.one22 rfl (fun _ hw => Heap.cellw hw (n := 1) rfl rfl)) ?_
    refine guard_yes rfl rfl (dF hc13) ?_
    refine ops_y hH11 rfl rfl (yv_len T.sl22 rfl (h0.now hH11 (n := 2) rfl).is) ?_
    refine guard_yes rfl rfl (dF hc13) ?_
    refine ops_y hH11 rfl rfl (yv_field T.f24_0 rfl) ?_
    refine guard_yes rfl rfl (dF hc13) ?_
    refine ops_y hH11 rfl rfl (yv_load T.one22 rfl (fun _ hw => Heap.cellw hw (n := 0) rfl rfl)) ?_
    refine guard_yes rfl rfl (dF hc13) ?_
    refine ops_y hH11 rfl rfl (yv_len T.sl22 rfl (h1.now hH11 (n := 2) rfl).is) ?_
    refine guard_yes rfl rfl (dF hc13) ?_
    refine ops_y hH11 rfl rfl (yv_gtr rfl rfl) ?_
    refine ops_y hH11 rfl rfl (yv_pick_f rfl (dF hc13) rfl) ?_
    refine oM hH11 rfl rfl ?_
    by_cases hc17 : (m.length : Int) < (l.length : Int)
    ·skip
     refine guard_no rfl rfl (dT hc17) rfl ?_
     refine guard_no rfl rfl (dT hc17) rfl ?_
     refine guard_no rfl rfl (dT hc17) rfl ?_
     refine ops_y hH11 rfl rfl (yv_pick_t rfl (dT hc17) rfl) ?_
     refine ops_nil (thn_n ?_)
     refine cond_t rfl rfl ?_
     refine seq (region ?_)
     refine op_fnV rfl rfl rfl hH11 (c18 (hG.now hH11 (n := 2) rfl)) (fun w18 hH19 => ?_)
     refine oA hH19 rfl rfl (ops_nil (thn_n (ret (thn_r ?_))))
     have hH20 := (hH19.sub (sC (sC sR)))
     refine fin hH20 (fun w' hf => (res1 rfl (show RV _ _ _ (.tmp 6) _ from rfl))) (fun w' hf => ?_)
     first | rfl | exact hbad.elim
    ·skip
     refine guard_yes rfl rfl (dF hc17) ?_
     refine oM hH11 rfl rfl ?_
     refine guard_yes rfl rfl (dF hc17) ?_
     refine ops_y hH11 rfl rfl (yv_len T.sl39 rfl (h2.now hH11 (n := 2) rfl).is) ?_
     refine guard_yes rfl rfl (dF hc17) ?_
     refine ops_y hH11 rfl rfl (yv_gtr rfl rfl) ?_
     refine ops_y hH11 rfl rfl (yv_pick_f rfl (dF hc17) rfl) ?_
     refine ops_nil (thn_n ?_)
     by_cases hc21 : 12 < (g.length : Int)
     ·skip
      refine cond_t rfl (dT hc21) ?_
      refine seq (region ?_)
      refine op_fnV rfl rfl rfl hH11 (c18 (hG.now hH11 (n := 2) rfl)) (fun w22 hH23 => ?_)
      refine oA hH23 rfl rfl (ops_nil (thn_n (ret (thn_r ?_))))
      have hH24 := (hH23.sub (sC (sC sR)))
      refine fin hH24 (fun w' hf => (res1 rfl (show RV _ _ _ (.tmp 6) _ from rfl))) (fun w' hf => ?_)
      first | rfl | exact hbad.elim
     ·skip
      refine cond_f rfl (dF hc21) ?_
      refine skip (thn_n (seq ?_))
      have hca : B.ck l = 0 := by first | assumption | exact Decidable.not_not.1 ‹_›
      have hcb : B.ck m = 0 := by first | assumption | exact Decidable.not_not.1 ‹_›
      have hba := B.ck_iff.1 hca
      have hbb := B.ck_iff.1 hcb
      have hinA := hba.2.1
      have hinB := hbb.2.1
      have hl24 := hba.1
      have hm24 := hbb.1
      have hl1 : 1 ≤ l.length := by omega
      have hlm : l.length ≤ m.length := by omega
      have hg12 : g.length ≤ 12 := by omega
      have hroA := B.ro2 hca
      have hroB := B.ro2 hcb
      have hgr : B.gwR m (l.length : Int) = (B.gw m l.length true, 0) := B.gr3 hcb (by omega)
      have hgl := B.gw_le 5 m l.length true (Nat.le_trans hm24 (by decide)) (by omega) hl1 hlm
      have htl : (m.take (l.length : Int).toNat).length ≤ 24 := by rw [List.length_take]; omega
      have hsa := B.strs_len l.length l rfl
      have hsb := B.strs_len m.length m rfl
      have hcs : l = m.take (l.length : Int).toNat → B.cg (l.length : Int) (m.length : Int) (B.gw m l.length true) (B.root l) (B.root m) = 0 := fun e => by have h := B.cg_self (l := m) hm24 hl1 hlm; rwa [← show l = m.take l.length from e] at h
      refine region_draw (fun w' => Heap [bx b4 24 [u], bx b1 24 [v], base w] w') T.mixed (fun w25 hr26 => ?_)
      have hH27 := hH11.redrawn hr26
      refine any_takes [0, 1, 2, 3, 4, 5, 6, 7] (by kernel_rfl) hH27 _ _ _ (by kernel_rfl) ?_
      refine qs_y rfl rfl (yv_field T.f24_0 rfl) ?_
      refine qs_y rfl rfl (yv_load T.one22 rfl (fun _ hw => Heap.cellw hw (n := 1) rfl rfl)) ?_
      refine qs_y rfl rfl (yv_len T.sl22 rfl (h0.now hH27 (n := 2) rfl).is) ?_
      refine qs_y rfl rfl (yv_field T.f24_0 rfl) ?_
      refine qs_y rfl rfl (yv_load T.one22 rfl (fun _ hw => Heap.cellw hw (n := 0) rfl rfl)) ?_
      refine qs_y rfl rfl (yv_len T.sl22 rfl (h1.now hH27 (n := 2) rfl).is) ?_
      refine qs_y rfl rfl (yv_assign rfl) (qs_y rfl rfl (yv_assign rfl) (qs_nil ?_))
      refine any_done (by kernel_rfl) ?_
      refine thn_n (seq (region ?_))
      refine ops_y hH27 rfl rfl (yv_loadA (cs := [v]) T.agg24 rfl rfl (fun _ hw => Heap.cellsw hw (n := 1) rfl (k := 0) rfl)) ?_
      refine op_fnV rfl rfl rfl hH27 ((by have h := c25  (h0.now hH27 (n := 2) rfl) (by omega) (hG.now hH27 (n := 2) rfl); simp only [hroA] at h; exact h)) (fun w28 hH29 => ?_)
      refine oM hH29 rfl rfl (ops_y hH29 rfl rfl (yv_extract rfl rfl) (ops_y hH29 rfl rfl (yv_extract rfl rfl) (oA hH29 rfl rfl (oA hH29 rfl rfl (ops_nil (thn_n (seq (region ?_))))))))
      refine ops_y hH29 rfl rfl (yv_loadA (cs := [u]) T.agg24 rfl rfl (fun _ hw => Heap.cellsw hw (n := 0) rfl (k := 0) rfl)) ?_
      refine op_fnV rfl rfl rfl hH29 ((by have h := c25  (h1.now hH29 (n := 2) rfl) (by omega) (hG.now hH29 (n := 2) rfl); simp only [hroB] at h; exact h)) (fun w30 hH31 => ?_)
      refine oM hH31 rfl rfl (ops_y hH31 rfl rfl (yv_extract rfl rfl) (ops_y hH31 rfl rfl (yv_extract rfl rfl) (oA hH31 rfl rfl (oA hH31 rfl rfl (ops_nil (thn_n (seq (region ?_))))))))
      refine ops_y hH31 rfl rfl (yv_loadA (cs := [u]) T.agg24 rfl rfl (fun _ hw => Heap.cellsw hw (n := 0) rfl (k := 0) rfl)) ?_
      refine oM hH31 rfl rfl ?_
      refine op_fn rfl rfl rfl hH31 ((by have h := c32 (m := (l.length : Int)) (h1.now hH31 (n := 2) rfl) (by omega) (hG.now hH31 (n := 2) rfl); simp only [hgr] at h; exact h)) (fun u34 w32 lo35 hi36 hH33 hv37 => ?_)
      obtain ⟨p39, hu, -⟩ := hv37
      subst hu
      have hH38 := Heap.tup2 hH33 (n := 0) rfl
      refine oM hH38 rfl rfl (ops_y hH38 rfl rfl (yv_extract rfl rfl) (ops_y hH38 rfl rfl (yv_extract rfl rfl) (oA hH38 rfl rfl (oA hH38 rfl rfl (ops_nil (thn_n (seq (seq (region ?_)))))))))
      refine oM hH38 rfl rfl ?_
      refine ops_y hH38 rfl rfl (yv_neq rfl rfl) ?_
      refine oM hH38 rfl rfl (guard_yes rfl rfl rfl (oM hH38 rfl rfl (guard_yes rfl rfl rfl ?_)))
      refine ops_y hH38 rfl rfl (yv_neq rfl rfl) ?_
      refine ops_y hH38 rfl rfl (yv_pick_f rfl rfl rfl) ?_
      refine oM hH38 rfl rfl (guard_yes rfl rfl rfl (oM hH38 rfl rfl (guard_yes rfl rfl rfl ?_)))
      refine ops_y hH38 rfl rfl (yv_neq rfl rfl) ?_
      refine ops_y hH38 rfl rfl (yv_pick_f rfl rfl rfl) ?_
      refine oM hH38 rfl rfl (guard_yes rfl rfl rfl (oM hH38 rfl rfl (guard_yes rfl rfl rfl ?_)))
      refine ops_y hH38 rfl rfl (yv_len T.sl39 rfl (Heap.rdw T.el39_encW hH38 (n := 0) rfl).is) ?_
      refine guard_yes rfl rfl rfl ?_
      refine ops_y hH38 rfl rfl (yv_gtr rfl rfl) ?_
      refine ops_y hH38 rfl rfl (yv_pick_f rfl rfl rfl) ?_
      refine oM hH38 rfl rfl ?_
      by_cases hc40 : 6 < ((B.gw m l.length true).length : Int)
      ·skip
       refine guard_no rfl rfl (dT hc40) rfl ?_
       refine guard_no rfl rfl (dT hc40) rfl ?_
       refine guard_no rfl rfl (dT hc40) rfl ?_
       refine guard_no rfl rfl (dT hc40) rfl ?_
       refine guard_no rfl rfl (dT hc40) rfl ?_
       refine ops_y hH38 rfl rfl (yv_pick_t rfl (dT hc40) rfl) ?_
       refine oM hH38 rfl rfl (guard_no rfl rfl rfl rfl (guard_no rfl rfl rfl rfl (guard_no rfl rfl rfl rfl (guard_no rfl rfl rfl rfl (guard_no rfl rfl rfl rfl ?_)))))
       refine ops_y hH38 rfl rfl (yv_pick_t rfl rfl rfl) ?_
       refine ops_nil (thn_n ?_)
       refine cond_t rfl rfl ?_
       refine seq ?_
       have hbad : False := by first | omega | exact absurd rfl ‹_›
       refine region (oA hH38 rfl rfl (ops_nil (thn_n (ret (thn_r ?_)))))
       have hH41 := (hH38.sub (sC (sC (sC sR))))
       refine fin hH41 (fun w' hf => (res1 rfl (show RV _ _ _ (.tmp 6) _ from rfl))) (fun w' hf => ?_)
       first | rfl | exact hbad.elim
      ·skip
       refine guard_yes rfl rfl (dF hc40) ?_
       refine oM hH38 rfl rfl ?_
       refine guard_yes rfl rfl (dF hc40) ?_
       refine ops_y hH38 rfl rfl (yv_field T.f24_0 rfl) ?_
       refine guard_yes rfl rfl (dF hc40) ?_
       refine ops_y hH38 rfl rfl (yv_load T.one22 rfl (fun _ hw => Heap.cellw hw (n := 2) rfl rfl)) ?_
       refine guard_yes rfl rfl (dF hc40) ?_
       refine op_fnV rfl rfl rfl hH38 (c44 (h0.now hH38 (n := 3) rfl) (by omega) hinA) (fun w42 hH43 => ?_)
       refine guard_yes rfl rfl (dF hc40) ?_
       refine ops_y hH43 rfl rfl (yv_neq rfl rfl) ?_
       refine ops_y hH43 rfl rfl (yv_pick_f rfl (dF hc40) rfl) ?_
       refine oM hH43 rfl rfl ?_
       refine guard_yes rfl rfl (not_decide_n rfl) ?_
       refine oM hH43 rfl rfl ?_
       refine guard_yes rfl rfl (not_decide_n rfl) ?_
       refine ops_y hH43 rfl rfl (yv_field T.f24_0 rfl) ?_
       refine guard_yes rfl rfl (not_decide_n rfl) ?_
       refine ops_y hH43 rfl rfl (yv_load T.one22 rfl (fun _ hw => Heap.cellw hw (n := 1) rfl rfl)) ?_
       refine guard_yes rfl rfl (not_decide_n rfl) ?_
       refine op_fnV rfl rfl rfl hH43 (c44 (h1.now hH43 (n := 3) rfl) (by omega) hinB) (fun w44 hH45 => ?_)
       refine guard_yes rfl rfl (not_decide_n rfl) ?_
       refine ops_y hH45 rfl rfl (yv_neq rfl rfl) ?_
       refine ops_y hH45 rfl rfl (yv_pick_f rfl (not_decide_n rfl) rfl) ?_
       refine ops_nil (thn_n ?_)
       refine cond_f rfl (not_decide_n rfl) ?_
       refine skip (thn_n (seq ?_))
       refine region_draw (fun w' => Heap [ow lo35 hi36 32 1 encW p39 (B.gw m l.length true), bx b4 24 [u], bx b1 24 [v], base w] w') T.mixed (fun w46 hr47 => ?_)
       have hH48 := hH45.redrawn hr47
       refine any_takes [0, 1, 2] (by kernel_rfl) hH48 _ _ _ (by kernel_rfl) ?_
       refine qs_y rfl rfl (yv_loadA (cs := [v]) T.agg24 rfl rfl (fun _ hw => Heap.cellsw hw (n := 2) rfl (k := 0) rfl)) ?_
       refine qs_y rfl rfl (yv_loadA (cs := [u]) T.agg24 rfl rfl (fun _ hw => Heap.cellsw hw (n := 1) rfl (k := 0) rfl)) ?_
       refine qM rfl rfl rfl (qs_nil ?_)
       refine any_all [3] (by kernel_rfl) rfl ?_
       refine ⟨⟨_, rfl, ?_⟩, trivial⟩
       ·skip
        refine op_fnV rfl rfl rfl hH48 (c49 (k := (l.length : Int)) (h1.now hH48 (n := 3) rfl) (by omega)) (fun w49 hH50 => ?_)
        refine ops_nil ?_
        refine ⟨hH50, ?_⟩
        refine any_all [4] (by kernel_rfl) rfl ?_
        refine ⟨⟨_, rfl, ?_⟩, trivial⟩
        ·skip
         refine op_fnV rfl rfl rfl hH50 (c42 (h0.now hH50 (n := 3) rfl) (Rd.upto (h1.now hH50 (n := 3) rfl) (hi := (l.length : Int).toNat) (by omega)) (by omega) (by omega)) (fun w51 hH52 => ?_)
         refine ops_nil ?_
         refine ⟨hH52, ?_⟩
         refine any_takes [5] (by kernel_rfl) hH52 _ _ _ (by kernel_rfl) ?_
         refine qs_y rfl rfl (yv_assign rfl) (qs_nil ?_)
         refine any_done (by kernel_rfl) ?_
         refine thn_n (seq (seq (region (oA hH52 rfl rfl (ops_nil (thn_n (block ?_)))))))
         refine loop (S := Nat) (fun t => [(16, (.int .i64 (t : Int))), (2, z), (3, (.pointer (some ⟨b1, 0, none⟩))), (4, (.pointer (some ⟨b4, 0, none⟩))), (7, (.int .i64 (l.length : Int))), (8, (.int .i64 (m.length : Int))), (9, (.int .u64 ((B.root l).toNat : Int))), (11, (.int .u64 ((B.root m).toNat : Int))), (13, p39), (15, (.bool (decide (l = (m.take (l.length : Int).toNat)))))]) (fun t w1 => Heap [ow lo35 hi36 32 1 encW p39 (B.gw m l.length true), bx b4 24 [u], bx b1 24 [v], base w] w1 ∧ t ≤ 2) (fun t => 2 - t) (0) (uC rfl (uC rfl (uC rfl (uC rfl (uC rfl (uC rfl (uC rfl (uC rfl (uC rfl (uC rfl (Sub.nil _))))))))))) ?_ ?_
         ·exact ⟨hH52, by omega⟩
         ·rintro t w53 ⟨hH54, ht⟩
          show Holds _ _ _ _ _ [(16, (.int .i64 (t : Int))), (2, z), (3, (.pointer (some ⟨b1, 0, none⟩))), (4, (.pointer (some ⟨b4, 0, none⟩))), (7, (.int .i64 (l.length : Int))), (8, (.int .i64 (m.length : Int))), (9, (.int .u64 ((B.root l).toNat : Int))), (11, (.int .u64 ((B.root m).toNat : Int))), (13, p39), (15, (.bool (decide (l = (m.take (l.length : Int).toNat)))))] _ _
          refine seq (seq (region (oM hH54 rfl rfl ?_)))
          refine ops_y hH54 rfl rfl (yv_lss rfl rfl) ?_
          refine ops_nil (thn_n ?_)
          by_cases hc55 : (t : Int) < 2
          ·skip
           refine cond_t rfl (dT hc55) ?_
           refine skip (thn_n (seq (block (seq (region (oM hH54 rfl rfl (oA hH54 rfl rfl (ops_nil (thn_n ?_)))))))))
           refine seq (seq (region (oM hH54 rfl rfl ?_)))
           refine ops_y hH54 rfl rfl (yv_eql rfl rfl) ?_
           refine ops_nil (thn_n ?_)
           by_cases hc56 : (t : Int) = 1
           ·skip
            refine cond_t rfl (dT hc56) ?_
            refine region (oM hH54 rfl rfl (oA hH54 rfl rfl (ops_nil (thn_n (seq (region (oM hH54 rfl rfl (oM hH54 rfl rfl (oM hH54 rfl rfl ?_)))))))))
            refine oM hH54 rfl rfl (oM hH54 rfl rfl ?_)
            refine op_fnV rfl rfl rfl hH54 (c34 (m := (l.length : Int)) (n := (m.length : Int)) (o := B.root l) (r := B.root m) (hG.now hH54 (n := 3) rfl) (h2.now hH54 (n := 3) rfl) (by omega)) (fun w57 hH58 => ?_)
            refine oA hH58 rfl rfl (ops_nil (thn_n (seq (seq ?_))))
            have hcr := B.cg_two (m := (l.length : Int)) (n := (m.length : Int)) (g := g) (o := B.root l) (r := B.root m) (by omega) (by omega)
            refine region (oM hH58 rfl rfl ?_)
            refine ops_y hH58 rfl rfl (yv_neq rfl rfl) ?_
            refine oM hH58 rfl rfl ?_
            by_cases hc59 : (B.cg (l.length : Int) (m.length : Int) g (B.root l) (B.root m)) = 0
            ·skip
             refine guard_no rfl rfl (not_decide_n hc59) rfl ?_
             refine guard_no rfl rfl (not_decide_n hc59) rfl ?_
             refine ops_y hH58 rfl rfl (yv_pick_f rfl (not_decide_n hc59) rfl) ?_
             refine oM hH58 rfl rfl (guard_yes rfl rfl rfl (oM hH58 rfl rfl (guard_yes rfl rfl rfl ?_)))
             refine ops_y hH58 rfl rfl (yv_eql rfl rfl) ?_
             refine guard_yes rfl rfl rfl (oM hH58 rfl rfl ?_)
             by_cases hc60 : (t : Int) = 0
             ·skip
              refine guard_yes rfl rfl (dT hc60) ?_
              refine oM hH58 rfl rfl (guard_yes rfl rfl rfl ?_)
              refine ops_y hH58 rfl rfl (yv_pick_t rfl (dT hc60) rfl) ?_
              refine guard_yes rfl rfl rfl (oM hH58 rfl rfl ?_)
              by_cases hc61 : l = (m.take (l.length : Int).toNat)
              ·skip
               refine guard_yes rfl rfl (dT hc61) ?_
               refine oM hH58 rfl rfl ?_
               refine guard_yes rfl rfl (dT hc61) ?_
               refine ops_y hH58 rfl rfl (yv_neq rfl rfl) ?_
               refine guard_yes rfl rfl rfl ?_
               refine ops_y hH58 rfl rfl (yv_pick_t rfl (dT hc61) rfl) ?_
               refine ops_y hH58 rfl rfl (yv_pick_f rfl rfl rfl) ?_
               refine ops_nil (thn_n ?_)
               refine cond_f rfl (not_decide_n hc59) ?_
               refine skip (thn_n (seq ?_))
               have hco := B.begun (g := g) hca hcb hl1 hlm
               have hgq := (B.gs_len m.length l.length g true (B.root l) hl1 hlm).1
               refine region_drawY (fun w' => Heap [bx b4 24 [u], bx b1 24 [v], base w] w') [13, 19] T.mixed (fun w62 hr63 => ?_)
               have hH64 := hH58.redrawn hr63
               refine any_takesT [0, 1, 2] (by kernel_rfl)  _ _ _ (by kernel_rfl) ?_
               refine qM rfl rfl rfl ?_
               refine qs_y rfl rfl (yv_eql rfl rfl) ?_
               refine qM rfl rfl rfl (qs_nil ?_)
               by_cases hc65 : (B.cg (l.length : Int) (m.length : Int) g (B.root l) (B.root m)) = 0
               ·skip
                refine any_takesT [3, 4, 5, 6, 7, 8, 9, 10, 11, 12, 13, 14, 15, 16, 17, 18, 19, 20, 21, 22] (by kernel_rfl)  _ _ _ (by kernel_rfl) ?_
                refine qW rfl rfl rfl (dT hc65) rfl rfl ?_
                refine qs_yes rfl rfl rfl (dT hc65) rfl (yv_not rfl) ?_
                refine qs_y rfl rfl (yv_pick_t rfl (dT hc65) rfl) ?_
                refine qM rfl rfl rfl ?_
                refine qs_no rfl rfl rfl (bnot_f (dT hc61)) rfl ?_
                refine qs_no rfl rfl rfl (bnot_f (dT hc61)) rfl ?_
                refine qs_no rfl rfl rfl (bnot_f (dT hc61)) rfl ?_
                refine qs_no rfl rfl rfl (bnot_f (dT hc61)) rfl ?_
                refine qs_no rfl rfl rfl (bnot_f (dT hc61)) rfl ?_
                refine qs_no rfl rfl rfl (bnot_f (dT hc61)) rfl ?_
                refine qs_no rfl rfl rfl (bnot_f (dT hc61)) rfl ?_
                refine qs_no rfl rfl rfl (bnot_f (dT hc61)) rfl ?_
                refine qs_no rfl rfl rfl (bnot_f (dT hc61)) rfl ?_
                refine qs_no rfl rfl rfl (bnot_f (dT hc61)) rfl ?_
                refine qs_no rfl rfl rfl (bnot_f (dT hc61)) rfl ?_
                refine qs_no rfl rfl rfl (bnot_f (dT hc61)) rfl ?_
                refine qs_no rfl rfl rfl (bnot_f (dT hc61)) rfl ?_
                refine qs_no rfl rfl rfl (bnot_f (dT hc61)) rfl ?_
                refine qs_no rfl rfl rfl (bnot_f (dT hc61)) rfl ?_
                refine qs_y rfl rfl (yv_pick_f rfl (bnot_f (dT hc61)) rfl) ?_
                refine qs_nil ?_
                refine any_doneY (by kernel_rfl) ?_
                refine thn_n ?_
                refine cond_f rfl rfl ?_
                refine skip (blk_n (thn_n (region (oM hH64 rfl rfl ?_))))
                refine ops_y hH64 rfl rfl (yv_add rfl rfl (by omega)) ?_
                refine oA hH64 rfl rfl (ops_nil ?_)
                refine lp_n (t + 1) (uC rfl (uC rfl (uC rfl (uC rfl (uC rfl (uC rfl (uC rfl (uC rfl (uC rfl (uC rfl (Sub.nil _))))))))))) ?_ ?_
                ·exact ⟨hH64, by omega⟩
                ·first | (dsimp only; omega) | (show _ < _; omega)
               ·skip
                refine any_takesT [3, 4, 5, 6, 7, 8, 9, 10, 11, 12, 13, 14, 15, 16, 17, 18, 19, 20, 21, 22] (by kernel_rfl)  _ _ _ (by kernel_rfl) ?_
                refine qs_no rfl rfl rfl (dF hc65) rfl ?_
                refine qs_no rfl rfl rfl (dF hc65) rfl ?_
                refine qs_y rfl rfl (yv_pick_f rfl (dF hc65) rfl) ?_
                refine qM rfl rfl rfl (qs_no rfl rfl rfl rfl rfl (qs_no rfl rfl rfl rfl rfl (qs_no rfl rfl rfl rfl rfl (qs_no rfl rfl rfl rfl rfl (qs_no rfl rfl rfl rfl rfl (qs_no rfl rfl rfl rfl rfl (qs_no rfl rfl rfl rfl rfl (qs_no rfl rfl rfl rfl rfl (qs_no rfl rfl rfl rfl rfl ?_)))))))))
                refine qs_no rfl rfl rfl rfl rfl (qs_no rfl rfl rfl rfl rfl (qs_no rfl rfl rfl rfl rfl (qs_no rfl rfl rfl rfl rfl (qs_no rfl rfl rfl rfl rfl (qs_no rfl rfl rfl rfl rfl ?_)))))
                refine qs_y rfl rfl (yv_pick_f rfl rfl rfl) ?_
                refine qs_nil ?_
                refine any_doneY (by kernel_rfl) ?_
                refine thn_n ?_
                refine cond_f rfl rfl ?_
                refine skip (blk_n (thn_n (region (oM hH64 rfl rfl ?_))))
                refine ops_y hH64 rfl rfl (yv_add rfl rfl (by omega)) ?_
                refine oA hH64 rfl rfl (ops_nil ?_)
                refine lp_n (t + 1) (uC rfl (uC rfl (uC rfl (uC rfl (uC rfl (uC rfl (uC rfl (uC rfl (uC rfl (uC rfl (Sub.nil _))))))))))) ?_ ?_
                ·exact ⟨hH64, by omega⟩
                ·first | (dsimp only; omega) | (show _ < _; omega)
              ·skip
               refine guard_no rfl rfl (dF hc61) rfl ?_
               refine guard_no rfl rfl (dF hc61) rfl ?_
               refine guard_yes rfl rfl rfl ?_
               refine ops_y hH58 rfl rfl (yv_pick_f rfl (dF hc61) rfl) ?_
               refine ops_y hH58 rfl rfl (yv_pick_f rfl rfl rfl) ?_
               refine ops_nil (thn_n ?_)
               refine cond_f rfl rfl ?_
               refine skip (thn_n (seq ?_))
               have hco := B.begun (g := g) hca hcb hl1 hlm
               have hgq := (B.gs_len m.length l.length g true (B.root l) hl1 hlm).1
               refine region_drawY (fun w' => Heap [bx b4 24 [u], bx b1 24 [v], base w] w') [13, 19] T.mixed (fun w66 hr67 => ?_)
               have hH68 := hH58.redrawn hr67
               refine any_takesT [0, 1, 2] (by kernel_rfl)  _ _ _ (by kernel_rfl) ?_
               refine qM rfl rfl rfl ?_
               refine qs_y rfl rfl (yv_eql rfl rfl) ?_
               refine qM rfl rfl rfl (qs_nil ?_)
               by_cases hc69 : (B.cg (l.length : Int) (m.length : Int) g (B.root l) (B.root m)) = 0
               ·skip
                refine any_takesT [3, 4, 5, 6, 7, 10, 14, 15, 16, 17] (by kernel_rfl)  _ _ _ (by kernel_rfl) ?_
                refine qW rfl rfl rfl (dT hc69) rfl rfl ?_
                refine qs_yes rfl rfl rfl (dT hc69) rfl (yv_not rfl) ?_
                refine qs_y rfl rfl (yv_pick_t rfl (dT hc69) rfl) ?_
                refine qM rfl rfl rfl ?_
                refine qs_yes rfl rfl rfl (bnot_t (dF hc61)) rfl (yv_field T.f24_0 rfl) ?_
                refine qs_yes rfl rfl rfl (bnot_t (dF hc61)) rfl (yv_field T.f24_0 rfl) ?_
                refine qW rfl rfl rfl (bnot_t (dF hc61)) rfl rfl ?_
                refine qW rfl rfl rfl (bnot_t (dF hc61)) rfl rfl ?_
                refine qW rfl rfl rfl (bnot_t (dF hc61)) rfl rfl ?_
                refine qW rfl rfl rfl (bnot_t (dF hc61)) rfl rfl ?_
                refine qs_nil ?_
                refine any_takesY [8, 11] (by kernel_rfl) (hH68.sub (sC sR)) _ _ _ (by kernel_rfl) ?_
                refine qs_yes rfl rfl rfl (bnot_t (dF hc61)) rfl (yv_load T.one22 rfl (fun _ hw => Heap.cellw hw (n := 1) rfl rfl)) ?_
                refine qs_yes rfl rfl rfl (bnot_t (dF hc61)) rfl (yv_load T.one22 rfl (fun _ hw => Heap.cellw hw (n := 0) rfl rfl)) ?_
                refine qs_nil ?_
                refine any_allY [9] (by kernel_rfl) rfl ?_
                refine ⟨⟨_, rfl, ?_⟩, trivial⟩
                ·skip
                 refine guard_yes rfl rfl (bnot_t (dF hc61)) ?_
                 refine op_fn rfl rfl rfl hH68 (c48 (h0.now hH68 (n := 3) rfl) (by omega) hinA) (fun u72 w70 lo73 hi74 hH71 hv75 => ?_)
                 have hH76 := Heap.toOw hH71 (n := 0) rfl
                 refine ops_nil ?_
                 refine ⟨fun _ _ => (hH76.sub (sC (sC sR))), ?_⟩
                 refine any_allY [12] (by kernel_rfl) rfl ?_
                 refine ⟨⟨_, rfl, ?_⟩, trivial⟩
                 ·skip
                  refine guard_yes rfl rfl (bnot_t (dF hc61)) ?_
                  refine op_fn rfl rfl rfl hH76 (c48 (h1.now hH76 (n := 4) rfl) (by omega) hinB) (fun u79 w77 lo80 hi81 hH78 hv82 => ?_)
                  have hH83 := Heap.toOw hH78 (n := 0) rfl
                  refine ops_nil ?_
                  refine ⟨fun _ _ => (hH83.sub (sC (sC (sC sR)))), ?_⟩
                  refine any_allY [13] (by kernel_rfl) rfl ?_
                  refine ⟨⟨_, rfl, ?_⟩, trivial⟩
                  ·skip
                   refine guard_yes rfl rfl (bnot_t (dF hc61)) ?_
                   refine op_append (n := 1) T.el56_encT rfl rfl rfl hH83 rfl (Heap.rdw T.el56_encT hH83 (n := 0) rfl) (by first | omega | (simp only [List.length_append, List.length_cons, List.length_nil]; omega)) (fun u84 lo86 hi87 w85 hH88 => ?_)
                   refine ops_nil ?_
                   refine ⟨(fun h => by cases h), ?_⟩
                   refine any_allY [18] (by kernel_rfl) rfl ?_
                   refine ⟨⟨_, rfl, ?_⟩, trivial⟩
                   ·skip
                    refine guard_yes rfl rfl (bnot_t (dF hc61)) ?_
                    refine op_fn rfl rfl rfl hH88 (c50 (m := l.length) (n := m.length) (p := g) (o := (B.root l)) (h2.now hH88 (n := 5) rfl) (by omega) (by omega) (by omega) (by omega)) (fun u91 w89 lo92 hi93 hH90 hv94 => ?_)
                    have hH95 := Heap.toOw hH90 (n := 0) rfl
                    refine ops_nil ?_
                    refine ⟨fun _ _ => (hH95.sub (sC (sC (sC (sC sR))))), ?_⟩
                    refine any_allY [19] (by kernel_rfl) rfl ?_
                    refine ⟨⟨_, rfl, ?_⟩, trivial⟩
                    ·skip
                     refine guard_yes rfl rfl (bnot_t (dF hc61)) ?_
                     refine op_append (n := 2) T.el56_encT rfl rfl rfl hH95 rfl (Heap.rdw T.el56_encT hH95 (n := 0) rfl) (by first | omega | (simp only [List.length_append, List.length_cons, List.length_nil]; omega)) (fun u96 lo98 hi99 w97 hH100 => ?_)
                     refine ops_nil ?_
                     refine ⟨(fun h => by cases h), ?_⟩
                     refine any_allY [20] (by kernel_rfl) rfl ?_
                     refine ⟨⟨_, rfl, ?_⟩, trivial⟩
                     ·skip
                      refine guard_yes rfl rfl (bnot_t (dF hc61)) ?_
                      refine op_fnV rfl rfl rfl hH100 (c47 (Heap.rdw T.el56_encT hH100 (n := 2) rfl) (B.begun_len hl1 hlm hm24) (B.begun_each hinA hinB hl1 hlm)) (fun w101 hH102 => ?_)
                      refine ops_nil ?_
                      refine ⟨fun _ _ => (hH102.sub (sC (sC (sC (sC sR))))), ?_⟩
                      refine any_takesT [21, 22] (by kernel_rfl)  _ _ _ (by kernel_rfl) ?_
                      refine qs_yes rfl rfl rfl (bnot_t (dF hc61)) rfl (yv_not rfl) ?_
                      refine qs_y rfl rfl (yv_pick_t rfl (bnot_t (dF hc61)) rfl) ?_
                      refine qs_nil ?_
                      refine any_doneY (by kernel_rfl) ?_
                      refine thn_n ?_
                      by_cases hc103 : B.coll (((B.strs l) ++ (B.strs m)) ++ (B.gs l.length m.length g true (B.root l)))
                      ·skip
                       refine cond_f rfl (not_decide_n hc103) ?_
                       refine skip (blk_n (thn_n (region (oM hH102 rfl rfl ?_))))
                       refine ops_y hH102 rfl rfl (yv_add rfl rfl (by omega)) ?_
                       refine oA hH102 rfl rfl (ops_nil ?_)
                       have hH104 := (hH102.sub (sC (sC (sC sR))))
                       refine lp_n (t + 1) (uC rfl (uC rfl (uC rfl (uC rfl (uC rfl (uC rfl (uC rfl (uC rfl (uC rfl (uC rfl (Sub.nil _))))))))))) ?_ ?_
                       ·exact ⟨hH104, by omega⟩
                       ·first | (dsimp only; omega) | (show _ < _; omega)
                      ·skip
                       refine cond_t rfl (not_decide_t hc103) ?_
                       refine seq ?_
                       have hbad : False := by first | omega | exact absurd (hco (by omega) ‹_›) ‹_›
                       refine region (oA hH102 rfl rfl (ops_nil (thn_n (ret (blk_r (thn_r (lp_r (blk_r (thn_r ?_)))))))))
                       have hH105 := (hH102.sub (sC (sC (sC (sC (sC (sC sR)))))))
                       refine fin hH105 (fun w' hf => (res1 rfl (show RV _ _ _ (.tmp 6) _ from rfl))) (fun w' hf => ?_)
                       first | rfl | exact hbad.elim
               ·skip
                refine any_takesT [3, 4, 5, 6, 7, 8, 9, 10, 11, 12, 13, 14, 15, 16, 17, 18, 19, 20, 21, 22] (by kernel_rfl)  _ _ _ (by kernel_rfl) ?_
                refine qs_no rfl rfl rfl (dF hc69) rfl ?_
                refine qs_no rfl rfl rfl (dF hc69) rfl ?_
                refine qs_y rfl rfl (yv_pick_f rfl (dF hc69) rfl) ?_
                refine qM rfl rfl rfl (qs_no rfl rfl rfl rfl rfl (qs_no rfl rfl rfl rfl rfl (qs_no rfl rfl rfl rfl rfl (qs_no rfl rfl rfl rfl rfl (qs_no rfl rfl rfl rfl rfl (qs_no rfl rfl rfl rfl rfl (qs_no rfl rfl rfl rfl rfl (qs_no rfl rfl rfl rfl rfl (qs_no rfl rfl rfl rfl rfl ?_)))))))))
                refine qs_no rfl rfl rfl rfl rfl (qs_no rfl rfl rfl rfl rfl (qs_no rfl rfl rfl rfl rfl (qs_no rfl rfl rfl rfl rfl (qs_no rfl rfl rfl rfl rfl (qs_no rfl rfl rfl rfl rfl ?_)))))
                refine qs_y rfl rfl (yv_pick_f rfl rfl rfl) ?_
                refine qs_nil ?_
                refine any_doneY (by kernel_rfl) ?_
                refine thn_n ?_
                refine cond_f rfl rfl ?_
                refine skip (blk_n (thn_n (region (oM hH68 rfl rfl ?_))))
                refine ops_y hH68 rfl rfl (yv_add rfl rfl (by omega)) ?_
                refine oA hH68 rfl rfl (ops_nil ?_)
                refine lp_n (t + 1) (uC rfl (uC rfl (uC rfl (uC rfl (uC rfl (uC rfl (uC rfl (uC rfl (uC rfl (uC rfl (Sub.nil _))))))))))) ?_ ?_
                ·exact ⟨hH68, by omega⟩
                ·first | (dsimp only; omega) | (show _ < _; omega)
             ·skip
              refine guard_no rfl rfl (dF hc60) rfl ?_
              refine guard_yes rfl rfl rfl ?_
              refine ops_y hH58 rfl rfl (yv_pick_f rfl (dF hc60) rfl) ?_
              refine guard_yes rfl rfl rfl (oM hH58 rfl rfl (guard_no rfl rfl rfl rfl (guard_no rfl rfl rfl rfl (guard_yes rfl rfl rfl ?_))))
              refine ops_y hH58 rfl rfl (yv_pick_f rfl rfl rfl) ?_
              refine ops_y hH58 rfl rfl (yv_pick_f rfl rfl rfl) ?_
              refine ops_nil (thn_n ?_)
              refine cond_f rfl rfl ?_
              refine skip (thn_n (seq ?_))
              have hco := B.begun (g := g) hca hcb hl1 hlm
              have hgq := (B.gs_len m.length l.length g true (B.root l) hl1 hlm).1
              refine region_drawY (fun w' => Heap [bx b4 24 [u], bx b1 24 [v], base w] w') [13, 19] T.mixed (fun w106 hr107 => ?_)
              have hH108 := hH58.redrawn hr107
              refine any_takesT [0, 1, 2] (by kernel_rfl)  _ _ _ (by kernel_rfl) ?_
              refine qM rfl rfl rfl ?_
              refine qs_y rfl rfl (yv_eql rfl rfl) ?_
              refine qM rfl rfl rfl (qs_nil ?_)
              by_cases hc109 : (B.cg (l.length : Int) (m.length : Int) g (B.root l) (B.root m)) = 0
              ·skip
               refine any_takesT [3, 4, 5, 6] (by kernel_rfl)  _ _ _ (by kernel_rfl) ?_
               refine qW rfl rfl rfl (dT hc109) rfl rfl ?_
               refine qs_yes rfl rfl rfl (dT hc109) rfl (yv_not rfl) ?_
               refine qs_y rfl rfl (yv_pick_t rfl (dT hc109) rfl) ?_
               refine qM rfl rfl rfl (qs_nil ?_)
               by_cases hc110 : l = (m.take (l.length : Int).toNat)
               ·skip
                refine any_takesT [7, 8, 9, 10, 11, 12, 13, 14, 15, 16, 17, 18, 19, 20, 21, 22] (by kernel_rfl)  _ _ _ (by kernel_rfl) ?_
                refine qs_no rfl rfl rfl (not_decide_n hc110) rfl ?_
                refine qs_no rfl rfl rfl (not_decide_n hc110) rfl ?_
                refine qs_no rfl rfl rfl (not_decide_n hc110) rfl ?_
                refine qs_no rfl rfl rfl (not_decide_n hc110) rfl ?_
                refine qs_no rfl rfl rfl (not_decide_n hc110) rfl ?_
                refine qs_no rfl rfl rfl (not_decide_n hc110) rfl ?_
                refine qs_no rfl rfl rfl (not_decide_n hc110) rfl ?_
                refine qs_no rfl rfl rfl (not_decide_n hc110) rfl ?_
                refine qs_no rfl rfl rfl (not_decide_n hc110) rfl ?_
                refine qs_no rfl rfl rfl (not_decide_n hc110) rfl ?_
                refine qs_no rfl rfl rfl (not_decide_n hc110) rfl ?_
                refine qs_no rfl rfl rfl (not_decide_n hc110) rfl ?_
                refine qs_no rfl rfl rfl (not_decide_n hc110) rfl ?_
                refine qs_no rfl rfl rfl (not_decide_n hc110) rfl ?_
                refine qs_no rfl rfl rfl (not_decide_n hc110) rfl ?_
                refine qs_y rfl rfl (yv_pick_f rfl (not_decide_n hc110) rfl) ?_
                refine qs_nil ?_
                refine any_doneY (by kernel_rfl) ?_
                refine thn_n ?_
                refine cond_f rfl rfl ?_
                refine skip (blk_n (thn_n (region (oM hH108 rfl rfl ?_))))
                refine ops_y hH108 rfl rfl (yv_add rfl rfl (by omega)) ?_
                refine oA hH108 rfl rfl (ops_nil ?_)
                refine lp_n (t + 1) (uC rfl (uC rfl (uC rfl (uC rfl (uC rfl (uC rfl (uC rfl (uC rfl (uC rfl (uC rfl (Sub.nil _))))))))))) ?_ ?_
                ·exact ⟨hH108, by omega⟩
                ·first | (dsimp only; omega) | (show _ < _; omega)
               ·skip
                refine any_takesT [7, 10, 14, 15, 16, 17] (by kernel_rfl)  _ _ _ (by kernel_rfl) ?_
                refine qs_yes rfl rfl rfl (not_decide_t hc110) rfl (yv_field T.f24_0 rfl) ?_
                refine qs_yes rfl rfl rfl (not_decide_t hc110) rfl (yv_field T.f24_0 rfl) ?_
                refine qW rfl rfl rfl (not_decide_t hc110) rfl rfl ?_
                refine qW rfl rfl rfl (not_decide_t hc110) rfl rfl ?_
                refine qW rfl rfl rfl (not_decide_t hc110) rfl rfl ?_
                refine qW rfl rfl rfl (not_decide_t hc110) rfl rfl ?_
                refine qs_nil ?_
                refine any_takesY [8, 11] (by kernel_rfl) (hH108.sub (sC sR)) _ _ _ (by kernel_rfl) ?_
                refine qs_yes rfl rfl rfl (not_decide_t hc110) rfl (yv_load T.one22 rfl (fun _ hw => Heap.cellw hw (n := 1) rfl rfl)) ?_
                refine qs_yes rfl rfl rfl (not_decide_t hc110) rfl (yv_load T.one22 rfl (fun _ hw => Heap.cellw hw (n := 0) rfl rfl)) ?_
                refine qs_nil ?_
                refine any_allY [9] (by kernel_rfl) rfl ?_
                refine ⟨⟨_, rfl, ?_⟩, trivial⟩
                ·skip
                 refine guard_yes rfl rfl (not_decide_t hc110) ?_
                 refine op_fn rfl rfl rfl hH108 (c48 (h0.now hH108 (n := 3) rfl) (by omega) hinA) (fun u113 w111 lo114 hi115 hH112 hv116 => ?_)
                 have hH117 := Heap.toOw hH112 (n := 0) rfl
                 refine ops_nil ?_
                 refine ⟨fun _ _ => (hH117.sub (sC (sC sR))), ?_⟩
                 refine any_allY [12] (by kernel_rfl) rfl ?_
                 refine ⟨⟨_, rfl, ?_⟩, trivial⟩
                 ·skip
                  refine guard_yes rfl rfl (not_decide_t hc110) ?_
                  refine op_fn rfl rfl rfl hH117 (c48 (h1.now hH117 (n := 4) rfl) (by omega) hinB) (fun u120 w118 lo121 hi122 hH119 hv123 => ?_)
                  have hH124 := Heap.toOw hH119 (n := 0) rfl
                  refine ops_nil ?_
                  refine ⟨fun _ _ => (hH124.sub (sC (sC (sC sR)))), ?_⟩
                  refine any_allY [13] (by kernel_rfl) rfl ?_
                  refine ⟨⟨_, rfl, ?_⟩, trivial⟩
                  ·skip
                   refine guard_yes rfl rfl (not_decide_t hc110) ?_
                   refine op_append (n := 1) T.el56_encT rfl rfl rfl hH124 rfl (Heap.rdw T.el56_encT hH124 (n := 0) rfl) (by first | omega | (simp only [List.length_append, List.length_cons, List.length_nil]; omega)) (fun u125 lo127 hi128 w126 hH129 => ?_)
                   refine ops_nil ?_
                   refine ⟨(fun h => by cases h), ?_⟩
                   refine any_allY [18] (by kernel_rfl) rfl ?_
                   refine ⟨⟨_, rfl, ?_⟩, trivial⟩
                   ·skip
                    refine guard_yes rfl rfl (not_decide_t hc110) ?_
                    refine op_fn rfl rfl rfl hH129 (c50 (m := l.length) (n := m.length) (p := g) (o := (B.root l)) (h2.now hH129 (n := 5) rfl) (by omega) (by omega) (by omega) (by omega)) (fun u132 w130 lo133 hi134 hH131 hv135 => ?_)
                    have hH136 := Heap.toOw hH131 (n := 0) rfl
                    refine ops_nil ?_
                    refine ⟨fun _ _ => (hH136.sub (sC (sC (sC (sC sR))))), ?_⟩
                    refine any_allY [19] (by kernel_rfl) rfl ?_
                    refine ⟨⟨_, rfl, ?_⟩, trivial⟩
                    ·skip
                     refine guard_yes rfl rfl (not_decide_t hc110) ?_
                     refine op_append (n := 2) T.el56_encT rfl rfl rfl hH136 rfl (Heap.rdw T.el56_encT hH136 (n := 0) rfl) (by first | omega | (simp only [List.length_append, List.length_cons, List.length_nil]; omega)) (fun u137 lo139 hi140 w138 hH141 => ?_)
                     refine ops_nil ?_
                     refine ⟨(fun h => by cases h), ?_⟩
                     refine any_allY [20] (by kernel_rfl) rfl ?_
                     refine ⟨⟨_, rfl, ?_⟩, trivial⟩
                     ·skip
                      refine guard_yes rfl rfl (not_decide_t hc110) ?_
                      refine op_fnV rfl rfl rfl hH141 (c47 (Heap.rdw T.el56_encT hH141 (n := 2) rfl) (B.begun_len hl1 hlm hm24) (B.begun_each hinA hinB hl1 hlm)) (fun w142 hH143 => ?_)
                      refine ops_nil ?_
                      refine ⟨fun _ _ => (hH143.sub (sC (sC (sC (sC sR))))), ?_⟩
                      refine any_takesT [21, 22] (by kernel_rfl)  _ _ _ (by kernel_rfl) ?_
                      refine qs_yes rfl rfl rfl (not_decide_t hc110) rfl (yv_not rfl) ?_
                      refine qs_y rfl rfl (yv_pick_t rfl (not_decide_t hc110) rfl) ?_
                      refine qs_nil ?_
                      refine any_doneY (by kernel_rfl) ?_
                      refine thn_n ?_
                      by_cases hc144 : B.coll (((B.strs l) ++ (B.strs m)) ++ (B.gs l.length m.length g true (B.root l)))
                      ·skip
                       refine cond_f rfl (not_decide_n hc144) ?_
                       refine skip (blk_n (thn_n (region (oM hH143 rfl rfl ?_))))
                       refine ops_y hH143 rfl rfl (yv_add rfl rfl (by omega)) ?_
                       refine oA hH143 rfl rfl (ops_nil ?_)
                       have hH145 := (hH143.sub (sC (sC (sC sR))))
                       refine lp_n (t + 1) (uC rfl (uC rfl (uC rfl (uC rfl (uC rfl (uC rfl (uC rfl (uC rfl (uC rfl (uC rfl (Sub.nil _))))))))))) ?_ ?_
                       ·exact ⟨hH145, by omega⟩
                       ·first | (dsimp only; omega) | (show _ < _; omega)
                      ·skip
                       refine cond_t rfl (not_decide_t hc144) ?_
                       refine seq ?_
                       have hbad : False := by first | omega | exact absurd (hco (by omega) ‹_›) ‹_›
                       refine region (oA hH143 rfl rfl (ops_nil (thn_n (ret (blk_r (thn_r (lp_r (blk_r (thn_r ?_)))))))))
                       have hH146 := (hH143.sub (sC (sC (sC (sC (sC (sC sR)))))))
                       refine fin hH146 (fun w' hf => (res1 rfl (show RV _ _ _ (.tmp 6) _ from rfl))) (fun w' hf => ?_)
                       first | rfl | exact hbad.elim
              ·skip
               refine any_takesT [3, 4, 5, 6, 7, 8, 9, 10, 11, 12, 13, 14, 15, 16, 17, 18, 19, 20, 21, 22] (by kernel_rfl)  _ _ _ (by kernel_rfl) ?_
               refine qs_no rfl rfl rfl (dF hc109) rfl ?_
               refine qs_no rfl rfl rfl (dF hc109) rfl ?_
               refine qs_y rfl rfl (yv_pick_f rfl (dF hc109) rfl) ?_
               refine qM rfl rfl rfl (qs_no rfl rfl rfl rfl rfl (qs_no rfl rfl rfl rfl rfl (qs_no rfl rfl rfl rfl rfl (qs_no rfl rfl rfl rfl rfl (qs_no rfl rfl rfl rfl rfl (qs_no rfl rfl rfl rfl rfl (qs_no rfl rfl rfl rfl rfl (qs_no rfl rfl rfl rfl rfl (qs_no rfl rfl rfl rfl rfl ?_)))))))))
               refine qs_no rfl rfl rfl rfl rfl (qs_no rfl rfl rfl rfl rfl (qs_no rfl rfl rfl rfl rfl (qs_no rfl rfl rfl rfl rfl (qs_no rfl rfl rfl rfl rfl (qs_no rfl rfl rfl rfl rfl ?_)))))
               refine qs_y rfl rfl (yv_pick_f rfl rfl rfl) ?_
               refine qs_nil ?_
               refine any_doneY (by kernel_rfl) ?_
               refine thn_n ?_
               refine cond_f rfl rfl ?_
               refine skip (blk_n (thn_n (region (oM hH108 rfl rfl ?_))))
               refine ops_y hH108 rfl rfl (yv_add rfl rfl (by omega)) ?_
               refine oA hH108 rfl rfl (ops_nil ?_)
               refine lp_n (t + 1) (uC rfl (uC rfl (uC rfl (uC rfl (uC rfl (uC rfl (uC rfl (uC rfl (uC rfl (uC rfl (Sub.nil _))))))))))) ?_ ?_
               ·exact ⟨hH108, by omega⟩
               ·first | (dsimp only; omega) | (show _ < _; omega)
            ·skip
             refine guard_yes rfl rfl (not_decide_t hc59) ?_
             refine oM hH58 rfl rfl ?_
             refine guard_yes rfl rfl (not_decide_t hc59) ?_
             refine ops_y hH58 rfl rfl (yv_neq rfl rfl) ?_
             refine ops_y hH58 rfl rfl (yv_pick_t rfl (not_decide_t hc59) rfl) ?_
             refine oM hH58 rfl rfl ?_
             by_cases hc147 : (B.cg (l.length : Int) (m.length : Int) g (B.root l) (B.root m)) = 25
             ·skip
              refine guard_yes rfl rfl (not_decide_n hc147) ?_
              refine oM hH58 rfl rfl ?_
              refine guard_yes rfl rfl (not_decide_n hc147) ?_
              refine ops_y hH58 rfl rfl (yv_eql rfl rfl) ?_
              refine guard_yes rfl rfl (not_decide_n hc147) ?_
              refine oM hH58 rfl rfl ?_
              by_cases hc148 : (t : Int) = 0
              ·skip
               refine guard_yes rfl rfl (dT hc148) ?_
               refine oM hH58 rfl rfl ?_
               refine guard_yes rfl rfl (not_decide_n hc147) ?_
               refine ops_y hH58 rfl rfl (yv_pick_t rfl (dT hc148) rfl) ?_
               refine guard_yes rfl rfl (not_decide_n hc147) ?_
               refine oM hH58 rfl rfl ?_
               by_cases hc149 : l = (m.take (l.length : Int).toNat)
               ·skip
                refine guard_yes rfl rfl (dT hc149) ?_
                refine oM hH58 rfl rfl ?_
                refine guard_yes rfl rfl (dT hc149) ?_
                refine ops_y hH58 rfl rfl (yv_neq rfl rfl) ?_
                refine guard_yes rfl rfl (not_decide_n hc147) ?_
                refine ops_y hH58 rfl rfl (yv_pick_t rfl (dT hc149) rfl) ?_
                refine ops_y hH58 rfl rfl (yv_pick_f rfl (not_decide_n hc147) rfl) ?_
                refine ops_nil (thn_n ?_)
                refine cond_t rfl (not_decide_t hc59) ?_
                refine seq ?_
                have hbad : False := by first | omega | exact absurd (hcs ‹_›) ‹_›
                refine region (oA hH58 rfl rfl (ops_nil (thn_n (ret (thn_r (blk_r (thn_r (lp_r (blk_r ?_)))))))))
                refine thn_r ?_
                have hH150 := (hH58.sub (sC (sC (sC sR))))
                refine fin hH150 (fun w' hf => (res1 rfl (show RV _ _ _ (.tmp 6) _ from rfl))) (fun w' hf => ?_)
                first | rfl | exact hbad.elim
               ·skip
                refine guard_no rfl rfl (dF hc149) rfl ?_
                refine guard_no rfl rfl (dF hc149) rfl ?_
                refine guard_yes rfl rfl (not_decide_n hc147) ?_
                refine ops_y hH58 rfl rfl (yv_pick_f rfl (dF hc149) rfl) ?_
                refine ops_y hH58 rfl rfl (yv_pick_f rfl (not_decide_n hc147) rfl) ?_
                refine ops_nil (thn_n ?_)
                refine cond_f rfl rfl ?_
                refine skip (thn_n (seq ?_))
                have hco := B.begun (g := g) hca hcb hl1 hlm
                have hgq := (B.gs_len m.length l.length g true (B.root l) hl1 hlm).1
                refine region_drawY (fun w' => Heap [bx b4 24 [u], bx b1 24 [v], base w] w') [13, 19] T.mixed (fun w151 hr152 => ?_)
                have hH153 := hH58.redrawn hr152
                refine any_takesT [0, 1, 2] (by kernel_rfl)  _ _ _ (by kernel_rfl) ?_
                refine qM rfl rfl rfl ?_
                refine qs_y rfl rfl (yv_eql rfl rfl) ?_
                refine qM rfl rfl rfl (qs_nil ?_)
                by_cases hc154 : (B.cg (l.length : Int) (m.length : Int) g (B.root l) (B.root m)) = 0
                ·skip
                 refine any_takesT [3, 4, 5, 6, 7, 10, 14, 15, 16, 17] (by kernel_rfl)  _ _ _ (by kernel_rfl) ?_
                 refine qW rfl rfl rfl (dT hc154) rfl rfl ?_
                 refine qs_yes rfl rfl rfl (dT hc154) rfl (yv_not rfl) ?_
                 refine qs_y rfl rfl (yv_pick_t rfl (dT hc154) rfl) ?_
                 refine qM rfl rfl rfl ?_
                 refine qs_yes rfl rfl rfl (bnot_t (dF hc149)) rfl (yv_field T.f24_0 rfl) ?_
                 refine qs_yes rfl rfl rfl (bnot_t (dF hc149)) rfl (yv_field T.f24_0 rfl) ?_
                 refine qW rfl rfl rfl (bnot_t (dF hc149)) rfl rfl ?_
                 refine qW rfl rfl rfl (bnot_t (dF hc149)) rfl rfl ?_
                 refine qW rfl rfl rfl (bnot_t (dF hc149)) rfl rfl ?_
                 refine qW rfl rfl rfl (bnot_t (dF hc149)) rfl rfl ?_
                 refine qs_nil ?_
                 refine any_takesY [8, 11] (by kernel_rfl) (hH153.sub (sC sR)) _ _ _ (by kernel_rfl) ?_
                 refine qs_yes rfl rfl rfl (bnot_t (dF hc149)) rfl (yv_load T.one22 rfl (fun _ hw => Heap.cellw hw (n := 1) rfl rfl)) ?_
                 refine qs_yes rfl rfl rfl (bnot_t (dF hc149)) rfl (yv_load T.one22 rfl (fun _ hw => Heap.cellw hw (n := 0) rfl rfl)) ?_
                 refine qs_nil ?_
                 refine any_allY [9] (by kernel_rfl) rfl ?_
                 refine ⟨⟨_, rfl, ?_⟩, trivial⟩
                 ·skip
                  refine guard_yes rfl rfl (bnot_t (dF hc149)) ?_
                  refine op_fn rfl rfl rfl hH153 (c48 (h0.now hH153 (n := 3) rfl) (by omega) hinA) (fun u157 w155 lo158 hi159 hH156 hv160 => ?_)
                  have hH161 := Heap.toOw hH156 (n := 0) rfl
                  refine ops_nil ?_
                  refine ⟨fun _ _ => (hH161.sub (sC (sC sR))), ?_⟩
                  refine any_allY [12] (by kernel_rfl) rfl ?_
                  refine ⟨⟨_, rfl, ?_⟩, trivial⟩
                  ·skip
                   refine guard_yes rfl rfl (bnot_t (dF hc149)) ?_
                   refine op_fn rfl rfl rfl hH161 (c48 (h1.now hH161 (n := 4) rfl) (by omega) hinB) (fun u164 w162 lo165 hi166 hH163 hv167 => ?_)
                   have hH168 := Heap.toOw hH163 (n := 0) rfl
                   refine ops_nil ?_
                   refine ⟨fun _ _ => (hH168.sub (sC (sC (sC sR)))), ?_⟩
                   refine any_allY [13] (by kernel_rfl) rfl ?_
                   refine ⟨⟨_, rfl, ?_⟩, trivial⟩
                   ·skip
                    refine guard_yes rfl rfl (bnot_t (dF hc149)) ?_
                    refine op_append (n := 1) T.el56_encT rfl rfl rfl hH168 rfl (Heap.rdw T.el56_encT hH168 (n := 0) rfl) (by first | omega | (simp only [List.length_append, List.length_cons, List.length_nil]; omega)) (fun u169 lo171 hi172 w170 hH173 => ?_)
                    refine ops_nil ?_
                    refine ⟨(fun h => by cases h), ?_⟩
                    refine any_allY [18] (by kernel_rfl) rfl ?_
                    refine ⟨⟨_, rfl, ?_⟩, trivial⟩
                    ·skip
                     refine guard_yes rfl rfl (bnot_t (dF hc149)) ?_
                     refine op_fn rfl rfl rfl hH173 (c50 (m := l.length) (n := m.length) (p := g) (o := (B.root l)) (h2.now hH173 (n := 5) rfl) (by omega) (by omega) (by omega) (by omega)) (fun u176 w174 lo177 hi178 hH175 hv179 => ?_)
                     have hH180 := Heap.toOw hH175 (n := 0) rfl
                     refine ops_nil ?_
                     refine ⟨fun _ _ => (hH180.sub (sC (sC (sC (sC sR))))), ?_⟩
                     refine any_allY [19] (by kernel_rfl) rfl ?_
                     refine ⟨⟨_, rfl, ?_⟩, trivial⟩
                     ·skip
                      refine guard_yes rfl rfl (bnot_t (dF hc149)) ?_
                      refine op_append (n := 2) T.el56_encT rfl rfl rfl hH180 rfl (Heap.rdw T.el56_encT hH180 (n := 0) rfl) (by first | omega | (simp only [List.length_append, List.length_cons, List.length_nil]; omega)) (fun u181 lo183 hi184 w182 hH185 => ?_)
                      refine ops_nil ?_
                      refine ⟨(fun h => by cases h), ?_⟩
                      refine any_allY [20] (by kernel_rfl) rfl ?_
                      refine ⟨⟨_, rfl, ?_⟩, trivial⟩
                      ·skip
                       refine guard_yes rfl rfl (bnot_t (dF hc149)) ?_
                       refine op_fnV rfl rfl rfl hH185 (c47 (Heap.rdw T.el56_encT hH185 (n := 2) rfl) (B.begun_len hl1 hlm hm24) (B.begun_each hinA hinB hl1 hlm)) (fun w186 hH187 => ?_)
                       refine ops_nil ?_
                       refine ⟨fun _ _ => (hH187.sub (sC (sC (sC (sC sR))))), ?_⟩
                       refine any_takesT [21, 22] (by kernel_rfl)  _ _ _ (by kernel_rfl) ?_
                       refine qs_yes rfl rfl rfl (bnot_t (dF hc149)) rfl (yv_not rfl) ?_
                       refine qs_y rfl rfl (yv_pick_t rfl (bnot_t (dF hc149)) rfl) ?_
                       refine qs_nil ?_
                       refine any_doneY (by kernel_rfl) ?_
                       refine thn_n ?_
                       by_cases hc188 : B.coll (((B.strs l) ++ (B.strs m)) ++ (B.gs l.length m.length g true (B.root l)))
                       ·skip
                        refine cond_f rfl (not_decide_n hc188) ?_
                        refine skip (blk_n (thn_n (region (oM hH187 rfl rfl ?_))))
                        refine ops_y hH187 rfl rfl (yv_add rfl rfl (by omega)) ?_
                        refine oA hH187 rfl rfl (ops_nil ?_)
                        have hH189 := (hH187.sub (sC (sC (sC sR))))
                        refine lp_n (t + 1) (uC rfl (uC rfl (uC rfl (uC rfl (uC rfl (uC rfl (uC rfl (uC rfl (uC rfl (uC rfl (Sub.nil _))))))))))) ?_ ?_
                        ·exact ⟨hH189, by omega⟩
                        ·first | (dsimp only; omega) | (show _ < _; omega)
                       ·skip
                        refine cond_t rfl (not_decide_t hc188) ?_
                        refine seq ?_
                        have hbad : False := by first | omega | exact absurd (hco (by omega) ‹_›) ‹_›
                        refine region (oA hH187 rfl rfl (ops_nil (thn_n (ret (blk_r (thn_r (lp_r (blk_r (thn_r ?_)))))))))
                        have hH190 := (hH187.sub (sC (sC (sC (sC (sC (sC sR)))))))
                        refine fin hH190 (fun w' hf => (res1 rfl (show RV _ _ _ (.tmp 6) _ from rfl))) (fun w' hf => ?_)
                        first | rfl | exact hbad.elim
                ·skip
                 refine any_takesT [3, 4, 5, 6, 7, 8, 9, 10, 11, 12, 13, 14, 15, 16, 17, 18, 19, 20, 21, 22] (by kernel_rfl)  _ _ _ (by kernel_rfl) ?_
                 refine qs_no rfl rfl rfl (dF hc154) rfl ?_
                 refine qs_no rfl rfl rfl (dF hc154) rfl ?_
                 refine qs_y rfl rfl (yv_pick_f rfl (dF hc154) rfl) ?_
                 refine qM rfl rfl rfl (qs_no rfl rfl rfl rfl rfl (qs_no rfl rfl rfl rfl rfl (qs_no rfl rfl rfl rfl rfl (qs_no rfl rfl rfl rfl rfl (qs_no rfl rfl rfl rfl rfl (qs_no rfl rfl rfl rfl rfl (qs_no rfl rfl rfl rfl rfl (qs_no rfl rfl rfl rfl rfl (qs_no rfl rfl rfl rfl rfl ?_)))))))))
                 refine qs_no rfl rfl rfl rfl rfl (qs_no rfl rfl rfl rfl rfl (qs_no rfl rfl rfl rfl rfl (qs_no rfl rfl rfl rfl rfl (qs_no rfl rfl rfl rfl rfl (qs_no rfl rfl rfl rfl rfl ?_)))))
                 refine qs_y rfl rfl (yv_pick_f rfl rfl rfl) ?_
                 refine qs_nil ?_
                 refine any_doneY (by kernel_rfl) ?_
                 refine thn_n ?_
                 refine cond_f rfl rfl ?_
                 refine skip (blk_n (thn_n (region (oM hH153 rfl rfl ?_))))
                 refine ops_y hH153 rfl rfl (yv_add rfl rfl (by omega)) ?_
                 refine oA hH153 rfl rfl (ops_nil ?_)
                 refine lp_n (t + 1) (uC rfl (uC rfl (uC rfl (uC rfl (uC rfl (uC rfl (uC rfl (uC rfl (uC rfl (uC rfl (Sub.nil _))))))))))) ?_ ?_
                 ·exact ⟨hH153, by omega⟩
                 ·first | (dsimp only; omega) | (show _ < _; omega)
              ·skip
               refine guard_no rfl rfl (dF hc148) rfl ?_
               refine guard_yes rfl rfl (not_decide_n hc147) ?_
               refine ops_y hH58 rfl rfl (yv_pick_f rfl (dF hc148) rfl) ?_
               refine guard_yes rfl rfl (not_decide_n hc147) ?_
               refine oM hH58 rfl rfl (guard_no rfl rfl rfl rfl (guard_no rfl rfl rfl rfl ?_))
               refine guard_yes rfl rfl (not_decide_n hc147) ?_
               refine ops_y hH58 rfl rfl (yv_pick_f rfl rfl rfl) ?_
               refine ops_y hH58 rfl rfl (yv_pick_f rfl (not_decide_n hc147) rfl) ?_
               refine ops_nil (thn_n ?_)
               refine cond_f rfl rfl ?_
               refine skip (thn_n (seq ?_))
               have hco := B.begun (g := g) hca hcb hl1 hlm
               have hgq := (B.gs_len m.length l.length g true (B.root l) hl1 hlm).1
               refine region_drawY (fun w' => Heap [bx b4 24 [u], bx b1 24 [v], base w] w') [13, 19] T.mixed (fun w191 hr192 => ?_)
               have hH193 := hH58.redrawn hr192
               refine any_takesT [0, 1, 2] (by kernel_rfl)  _ _ _ (by kernel_rfl) ?_
               refine qM rfl rfl rfl ?_
               refine qs_y rfl rfl (yv_eql rfl rfl) ?_
               refine qM rfl rfl rfl (qs_nil ?_)
               by_cases hc194 : (B.cg (l.length : Int) (m.length : Int) g (B.root l) (B.root m)) = 0
               ·skip
                refine any_takesT [3, 4, 5, 6] (by kernel_rfl)  _ _ _ (by kernel_rfl) ?_
                refine qW rfl rfl rfl (dT hc194) rfl rfl ?_
                refine qs_yes rfl rfl rfl (dT hc194) rfl (yv_not rfl) ?_
                refine qs_y rfl rfl (yv_pick_t rfl (dT hc194) rfl) ?_
                refine qM rfl rfl rfl (qs_nil ?_)
                by_cases hc195 : l = (m.take (l.length : Int).toNat)
                ·skip
                 refine any_takesT [7, 8, 9, 10, 11, 12, 13, 14, 15, 16, 17, 18, 19, 20, 21, 22] (by kernel_rfl)  _ _ _ (by kernel_rfl) ?_
                 refine qs_no rfl rfl rfl (not_decide_n hc195) rfl ?_
                 refine qs_no rfl rfl rfl (not_decide_n hc195) rfl ?_
                 refine qs_no rfl rfl rfl (not_decide_n hc195) rfl ?_
                 refine qs_no rfl rfl rfl (not_decide_n hc195) rfl ?_
                 refine qs_no rfl rfl rfl (not_decide_n hc195) rfl ?_
                 refine qs_no rfl rfl rfl (not_decide_n hc195) rfl ?_
                 refine qs_no rfl rfl rfl (not_decide_n hc195) rfl ?_
                 refine qs_no rfl rfl rfl (not_decide_n hc195) rfl ?_
                 refine qs_no rfl rfl rfl (not_decide_n hc195) rfl ?_
                 refine qs_no rfl rfl rfl (not_decide_n hc195) rfl ?_
                 refine qs_no rfl rfl rfl (not_decide_n hc195) rfl ?_
                 refine qs_no rfl rfl rfl (not_decide_n hc195) rfl ?_
                 refine qs_no rfl rfl rfl (not_decide_n hc195) rfl ?_
                 refine qs_no rfl rfl rfl (not_decide_n hc195) rfl ?_
                 refine qs_no rfl rfl rfl (not_decide_n hc195) rfl ?_
                 refine qs_y rfl rfl (yv_pick_f rfl (not_decide_n hc195) rfl) ?_
                 refine qs_nil ?_
                 refine any_doneY (by kernel_rfl) ?_
                 refine thn_n ?_
                 refine cond_f rfl rfl ?_
                 refine skip (blk_n (thn_n (region (oM hH193 rfl rfl ?_))))
                 refine ops_y hH193 rfl rfl (yv_add rfl rfl (by omega)) ?_
                 refine oA hH193 rfl rfl (ops_nil ?_)
                 refine lp_n (t + 1) (uC rfl (uC rfl (uC rfl (uC rfl (uC rfl (uC rfl (uC rfl (uC rfl (uC rfl (uC rfl (Sub.nil _))))))))))) ?_ ?_
                 ·exact ⟨hH193, by omega⟩
                 ·first | (dsimp only; omega) | (show _ < _; omega)
                ·skip
                 refine any_takesT [7, 10, 14, 15, 16, 17] (by kernel_rfl)  _ _ _ (by kernel_rfl) ?_
                 refine qs_yes rfl rfl rfl (not_decide_t hc195) rfl (yv_field T.f24_0 rfl) ?_
                 refine qs_yes rfl rfl rfl (not_decide_t hc195) rfl (yv_field T.f24_0 rfl) ?_
                 refine qW rfl rfl rfl (not_decide_t hc195) rfl rfl ?_
                 refine qW rfl rfl rfl (not_decide_t hc195) rfl rfl ?_
                 refine qW rfl rfl rfl (not_decide_t hc195) rfl rfl ?_
                 refine qW rfl rfl rfl (not_decide_t hc195) rfl rfl ?_
                 refine qs_nil ?_
                 refine any_takesY [8, 11] (by kernel_rfl) (hH193.sub (sC sR)) _ _ _ (by kernel_rfl) ?_
                 refine qs_yes rfl rfl rfl (not_decide_t hc195) rfl (yv_load T.one22 rfl (fun _ hw => Heap.cellw hw (n := 1) rfl rfl)) ?_
                 refine qs_yes rfl rfl rfl (not_decide_t hc195) rfl (yv_load T.one22 rfl (fun _ hw => Heap.cellw hw (n := 0) rfl rfl)) ?_
                 refine qs_nil ?_
                 refine any_allY [9] (by kernel_rfl) rfl ?_
                 refine ⟨⟨_, rfl, ?_⟩, trivial⟩
                 ·skip
                  refine guard_yes rfl rfl (not_decide_t hc195) ?_
                  refine op_fn rfl rfl rfl hH193 (c48 (h0.now hH193 (n := 3) rfl) (by omega) hinA) (fun u198 w196 lo199 hi200 hH197 hv201 => ?_)
                  have hH202 := Heap.toOw hH197 (n := 0) rfl
                  refine ops_nil ?_
                  refine ⟨fun _ _ => (hH202.sub (sC (sC sR))), ?_⟩
                  refine any_allY [12] (by kernel_rfl) rfl ?_
                  refine ⟨⟨_, rfl, ?_⟩, trivial⟩
                  ·skip
                   refine guard_yes rfl rfl (not_decide_t hc195) ?_
                   refine op_fn rfl rfl rfl hH202 (c48 (h1.now hH202 (n := 4) rfl) (by omega) hinB) (fun u205 w203 lo206 hi207 hH204 hv208 => ?_)
                   have hH209 := Heap.toOw hH204 (n := 0) rfl
                   refine ops_nil ?_
                   refine ⟨fun _ _ => (hH209.sub (sC (sC (sC sR)))), ?_⟩
                   refine any_allY [13] (by kernel_rfl) rfl ?_
                   refine ⟨⟨_, rfl, ?_⟩, trivial⟩
                   ·skip
                    refine guard_yes rfl rfl (not_decide_t hc195) ?_
                    refine op_append (n := 1) T.el56_encT rfl rfl rfl hH209 rfl (Heap.rdw T.el56_encT hH209 (n := 0) rfl) (by first | omega | (simp only [List.length_append, List.length_cons, List.length_nil]; omega)) (fun u210 lo212 hi213 w211 hH214 => ?_)
                    refine ops_nil ?_
                    refine ⟨(fun h => by cases h), ?_⟩
                    refine any_allY [18] (by kernel_rfl) rfl ?_
                    refine ⟨⟨_, rfl, ?_⟩, trivial⟩
                    ·skip
                     refine guard_yes rfl rfl (not_decide_t hc195) ?_
                     refine op_fn rfl rfl rfl hH214 (c50 (m := l.length) (n := m.length) (p := g) (o := (B.root l)) (h2.now hH214 (n := 5) rfl) (by omega) (by omega) (by omega) (by omega)) (fun u217 w215 lo218 hi219 hH216 hv220 => ?_)
                     have hH221 := Heap.toOw hH216 (n := 0) rfl
                     refine ops_nil ?_
                     refine ⟨fun _ _ => (hH221.sub (sC (sC (sC (sC sR))))), ?_⟩
                     refine any_allY [19] (by kernel_rfl) rfl ?_
                     refine ⟨⟨_, rfl, ?_⟩, trivial⟩
                     ·skip
                      refine guard_yes rfl rfl (not_decide_t hc195) ?_
                      refine op_append (n := 2) T.el56_encT rfl rfl rfl hH221 rfl (Heap.rdw T.el56_encT hH221 (n := 0) rfl) (by first | omega | (simp only [List.length_append, List.length_cons, List.length_nil]; omega)) (fun u222 lo224 hi225 w223 hH226 => ?_)
                      refine ops_nil ?_
                      refine ⟨(fun h => by cases h), ?_⟩
                      refine any_allY [20] (by kernel_rfl) rfl ?_
                      refine ⟨⟨_, rfl, ?_⟩, trivial⟩
                      ·skip
                       refine guard_yes rfl rfl (not_decide_t hc195) ?_
                       refine op_fnV rfl rfl rfl hH226 (c47 (Heap.rdw T.el56_encT hH226 (n := 2) rfl) (B.begun_len hl1 hlm hm24) (B.begun_each hinA hinB hl1 hlm)) (fun w227 hH228 => ?_)
                       refine ops_nil ?_
                       refine ⟨fun _ _ => (hH228.sub (sC (sC (sC (sC sR))))), ?_⟩
                       refine any_takesT [21, 22] (by kernel_rfl)  _ _ _ (by kernel_rfl) ?_
                       refine qs_yes rfl rfl rfl (not_decide_t hc195) rfl (yv_not rfl) ?_
                       refine qs_y rfl rfl (yv_pick_t rfl (not_decide_t hc195) rfl) ?_
                       refine qs_nil ?_
                       refine any_doneY (by kernel_rfl) ?_
                       refine thn_n ?_
                       by_cases hc229 : B.coll (((B.strs l) ++ (B.strs m)) ++ (B.gs l.length m.length g true (B.root l)))
                       ·skip
                        refine cond_f rfl (not_decide_n hc229) ?_
                        refine skip (blk_n (thn_n (region (oM hH228 rfl rfl ?_))))
                        refine ops_y hH228 rfl rfl (yv_add rfl rfl (by omega)) ?_
                        refine oA hH228 rfl rfl (ops_nil ?_)
                        have hH230 := (hH228.sub (sC (sC (sC sR))))
                        refine lp_n (t + 1) (uC rfl (uC rfl (uC rfl (uC rfl (uC rfl (uC rfl (uC rfl (uC rfl (uC rfl (uC rfl (Sub.nil _))))))))))) ?_ ?_
                        ·exact ⟨hH230, by omega⟩
                        ·first | (dsimp only; omega) | (show _ < _; omega)
                       ·skip
                        refine cond_t rfl (not_decide_t hc229) ?_
                        refine seq ?_
                        have hbad : False := by first | omega | exact absurd (hco (by omega) ‹_›) ‹_›
                        refine region (oA hH228 rfl rfl (ops_nil (thn_n (ret (blk_r (thn_r (lp_r (blk_r (thn_r ?_)))))))))
                        have hH231 := (hH228.sub (sC (sC (sC (sC (sC (sC sR)))))))
                        refine fin hH231 (fun w' hf => (res1 rfl (show RV _ _ _ (.tmp 6) _ from rfl))) (fun w' hf => ?_)
                        first | rfl | exact hbad.elim
               ·skip
                refine any_takesT [3, 4, 5, 6, 7, 8, 9, 10, 11, 12, 13, 14, 15, 16, 17, 18, 19, 20, 21, 22] (by kernel_rfl)  _ _ _ (by kernel_rfl) ?_
                refine qs_no rfl rfl rfl (dF hc194) rfl ?_
                refine qs_no rfl rfl rfl (dF hc194) rfl ?_
                refine qs_y rfl rfl (yv_pick_f rfl (dF hc194) rfl) ?_
                refine qM rfl rfl rfl (qs_no rfl rfl rfl rfl rfl (qs_no rfl rfl rfl rfl rfl (qs_no rfl rfl rfl rfl rfl (qs_no rfl rfl rfl rfl rfl (qs_no rfl rfl rfl rfl rfl (qs_no rfl rfl rfl rfl rfl (qs_no rfl rfl rfl rfl rfl (qs_no rfl rfl rfl rfl rfl (qs_no rfl rfl rfl rfl rfl ?_)))))))))
                refine qs_no rfl rfl rfl rfl rfl (qs_no rfl rfl rfl rfl rfl (qs_no rfl rfl rfl rfl rfl (qs_no rfl rfl rfl rfl rfl (qs_no rfl rfl rfl rfl rfl (qs_no rfl rfl rfl rfl rfl ?_)))))
                refine qs_y rfl rfl (yv_pick_f rfl rfl rfl) ?_
                refine qs_nil ?_
                refine any_doneY (by kernel_rfl) ?_
                refine thn_n ?_
                refine cond_f rfl rfl ?_
                refine skip (blk_n (thn_n (region (oM hH193 rfl rfl ?_))))
                refine ops_y hH193 rfl rfl (yv_add rfl rfl (by omega)) ?_
                refine oA hH193 rfl rfl (ops_nil ?_)
                refine lp_n (t + 1) (uC rfl (uC rfl (uC rfl (uC rfl (uC rfl (uC rfl (uC rfl (uC rfl (uC rfl (uC rfl (Sub.nil _))))))))))) ?_ ?_
                ·exact ⟨hH193, by omega⟩
                ·first | (dsimp only; omega) | (show _ < _; omega)
             ·skip
              refine guard_no rfl rfl (not_decide_t hc147) rfl ?_
              refine guard_no rfl rfl (not_decide_t hc147) rfl ?_
              refine guard_no rfl rfl (not_decide_t hc147) rfl ?_
              refine guard_none rfl rfl rfl ?_
              refine guard_no rfl rfl (not_decide_t hc147) rfl ?_
              refine guard_no rfl rfl (not_decide_t hc147) rfl ?_
              refine guard_none rfl rfl rfl ?_
              refine guard_none rfl rfl rfl ?_
              refine guard_no rfl rfl (not_decide_t hc147) rfl ?_
              refine ops_y hH58 rfl rfl (yv_pick_t rfl (not_decide_t hc147) rfl) ?_
              refine ops_nil (thn_n ?_)
              refine cond_t rfl rfl ?_
              refine seq ?_
              have hbad : False := by first | omega | exact absurd (hcs ‹_›) ‹_›
              refine region (oA hH58 rfl rfl (ops_nil (thn_n (ret (thn_r (blk_r (thn_r (lp_r (blk_r ?_)))))))))
              refine thn_r ?_
              have hH232 := (hH58.sub (sC (sC (sC sR))))
              refine fin hH232 (fun w' hf => (res1 rfl (show RV _ _ _ (.tmp 6) _ from rfl))) (fun w' hf => ?_)
              first | rfl | exact hbad.elim
           ·skip
            refine cond_f rfl (dF hc56) ?_
            refine skip (thn_n (seq (region (oM hH54 rfl rfl (oM hH54 rfl rfl (oM hH54 rfl rfl (oM hH54 rfl rfl (oM hH54 rfl rfl ?_))))))))
            refine op_fnV rfl rfl rfl hH54 (c34 (m := (l.length : Int)) (n := (m.length : Int)) (o := B.root l) (r := B.root m) (hG.now hH54 (n := 3) rfl) (Heap.rdw T.el39_encW hH54 (n := 0) rfl) (by omega)) (fun w233 hH234 => ?_)
            refine oA hH234 rfl rfl (ops_nil (thn_n (seq (seq ?_))))
            have hcr := B.cg_two (m := (l.length : Int)) (n := (m.length : Int)) (g := (B.gw m l.length true)) (o := B.root l) (r := B.root m) (by omega) (by omega)
            refine region (oM hH234 rfl rfl ?_)
            refine ops_y hH234 rfl rfl (yv_neq rfl rfl) ?_
            refine oM hH234 rfl rfl ?_
            by_cases hc235 : (B.cg (l.length : Int) (m.length : Int) (B.gw m l.length true) (B.root l) (B.root m)) = 0
            ·skip
             refine guard_no rfl rfl (not_decide_n hc235) rfl ?_
             refine guard_no rfl rfl (not_decide_n hc235) rfl ?_
             refine ops_y hH234 rfl rfl (yv_pick_f rfl (not_decide_n hc235) rfl) ?_
             refine oM hH234 rfl rfl (guard_yes rfl rfl rfl (oM hH234 rfl rfl (guard_yes rfl rfl rfl ?_)))
             refine ops_y hH234 rfl rfl (yv_eql rfl rfl) ?_
             refine guard_yes rfl rfl rfl (oM hH234 rfl rfl ?_)
             by_cases hc236 : (t : Int) = 0
             ·skip
              refine guard_yes rfl rfl (dT hc236) ?_
              refine oM hH234 rfl rfl (guard_yes rfl rfl rfl ?_)
              refine ops_y hH234 rfl rfl (yv_pick_t rfl (dT hc236) rfl) ?_
              refine guard_yes rfl rfl rfl (oM hH234 rfl rfl ?_)
              by_cases hc237 : l = (m.take (l.length : Int).toNat)
              ·skip
               refine guard_yes rfl rfl (dT hc237) ?_
               refine oM hH234 rfl rfl ?_
               refine guard_yes rfl rfl (dT hc237) ?_
               refine ops_y hH234 rfl rfl (yv_neq rfl rfl) ?_
               refine guard_yes rfl rfl rfl ?_
               refine ops_y hH234 rfl rfl (yv_pick_t rfl (dT hc237) rfl) ?_
               refine ops_y hH234 rfl rfl (yv_pick_f rfl rfl rfl) ?_
               refine ops_nil (thn_n ?_)
               refine cond_f rfl (not_decide_n hc235) ?_
               refine skip (thn_n (seq ?_))
               have hco := B.begun (g := (B.gw m l.length true)) hca hcb hl1 hlm
               have hgq := (B.gs_len m.length l.length (B.gw m l.length true) true (B.root l) hl1 hlm).1
               refine region_drawY (fun w' => Heap [bx b4 24 [u], bx b1 24 [v], base w] w') [13, 19] T.mixed (fun w238 hr239 => ?_)
               have hH240 := hH234.redrawn hr239
               refine any_takesT [0, 1, 2] (by kernel_rfl)  _ _ _ (by kernel_rfl) ?_
               refine qM rfl rfl rfl ?_
               refine qs_y rfl rfl (yv_eql rfl rfl) ?_
               refine qM rfl rfl rfl (qs_nil ?_)
               by_cases hc241 : (B.cg (l.length : Int) (m.length : Int) (B.gw m l.length true) (B.root l) (B.root m)) = 0
               ·skip
                refine any_takesT [3, 4, 5, 6, 7, 8, 9, 10, 11, 12, 13, 14, 15, 16, 17, 18, 19, 20, 21, 22] (by kernel_rfl)  _ _ _ (by kernel_rfl) ?_
                refine qW rfl rfl rfl (dT hc241) rfl rfl ?_
                refine qs_yes rfl rfl rfl (dT hc241) rfl (yv_not rfl) ?_
                refine qs_y rfl rfl (yv_pick_t rfl (dT hc241) rfl) ?_
                refine qM rfl rfl rfl ?_
                refine qs_no rfl rfl rfl (bnot_f (dT hc237)) rfl ?_
                refine qs_no rfl rfl rfl (bnot_f (dT hc237)) rfl ?_
                refine qs_no rfl rfl rfl (bnot_f (dT hc237)) rfl ?_
                refine qs_no rfl rfl rfl (bnot_f (dT hc237)) rfl ?_
                refine qs_no rfl rfl rfl (bnot_f (dT hc237)) rfl ?_
                refine qs_no rfl rfl rfl (bnot_f (dT hc237)) rfl ?_
                refine qs_no rfl rfl rfl (bnot_f (dT hc237)) rfl ?_
                refine qs_no rfl rfl rfl (bnot_f (dT hc237)) rfl ?_
                refine qs_no rfl rfl rfl (bnot_f (dT hc237)) rfl ?_
                refine qs_no rfl rfl rfl (bnot_f (dT hc237)) rfl ?_
                refine qs_no rfl rfl rfl (bnot_f (dT hc237)) rfl ?_
                refine qs_no rfl rfl rfl (bnot_f (dT hc237)) rfl ?_
                refine qs_no rfl rfl rfl (bnot_f (dT hc237)) rfl ?_
                refine qs_no rfl rfl rfl (bnot_f (dT hc237)) rfl ?_
                refine qs_no rfl rfl rfl (bnot_f (dT hc237)) rfl ?_
                refine qs_y rfl rfl (yv_pick_f rfl (bnot_f (dT hc237)) rfl) ?_
                refine qs_nil ?_
                refine any_doneY (by kernel_rfl) ?_
                refine thn_n ?_
                refine cond_f rfl rfl ?_
                refine skip (blk_n (thn_n (region (oM hH240 rfl rfl ?_))))
                refine ops_y hH240 rfl rfl (yv_add rfl rfl (by omega)) ?_
                refine oA hH240 rfl rfl (ops_nil ?_)
                refine lp_n (t + 1) (uC rfl (uC rfl (uC rfl (uC rfl (uC rfl (uC rfl (uC rfl (uC rfl (uC rfl (uC rfl (Sub.nil _))))))))))) ?_ ?_
                ·exact ⟨hH240, by omega⟩
                ·first | (dsimp only; omega) | (show _ < _; omega)
               ·skip
                refine any_takesT [3, 4, 5, 6, 7, 8, 9, 10, 11, 12, 13, 14, 15, 16, 17, 18, 19, 20, 21, 22] (by kernel_rfl)  _ _ _ (by kernel_rfl) ?_
                refine qs_no rfl rfl rfl (dF hc241) rfl ?_
                refine qs_no rfl rfl rfl (dF hc241) rfl ?_
                refine qs_y rfl rfl (yv_pick_f rfl (dF hc241) rfl) ?_
                refine qM rfl rfl rfl (qs_no rfl rfl rfl rfl rfl (qs_no rfl rfl rfl rfl rfl (qs_no rfl rfl rfl rfl rfl (qs_no rfl rfl rfl rfl rfl (qs_no rfl rfl rfl rfl rfl (qs_no rfl rfl rfl rfl rfl (qs_no rfl rfl rfl rfl rfl (qs_no rfl rfl rfl rfl rfl (qs_no rfl rfl rfl rfl rfl ?_)))))))))
                refine qs_no rfl rfl rfl rfl rfl (qs_no rfl rfl rfl rfl rfl (qs_no rfl rfl rfl rfl rfl (qs_no rfl rfl rfl rfl rfl (qs_no rfl rfl rfl rfl rfl (qs_no rfl rfl rfl rfl rfl ?_)))))
                refine qs_y rfl rfl (yv_pick_f rfl rfl rfl) ?_
                refine qs_nil ?_
                refine any_doneY (by kernel_rfl) ?_
                refine thn_n ?_
                refine cond_f rfl rfl ?_
                refine skip (blk_n (thn_n (region (oM hH240 rfl rfl ?_))))
                refine ops_y hH240 rfl rfl (yv_add rfl rfl (by omega)) ?_
                refine oA hH240 rfl rfl (ops_nil ?_)
                refine lp_n (t + 1) (uC rfl (uC rfl (uC rfl (uC rfl (uC rfl (uC rfl (uC rfl (uC rfl (uC rfl (uC rfl (Sub.nil _))))))))))) ?_ ?_
                ·exact ⟨hH240, by omega⟩
                ·first | (dsimp only; omega) | (show _ < _; omega)
              ·skip
               refine guard_no rfl rfl (dF hc237) rfl ?_
               refine guard_no rfl rfl (dF hc237) rfl ?_
               refine guard_yes rfl rfl rfl ?_
               refine ops_y hH234 rfl rfl (yv_pick_f rfl (dF hc237) rfl) ?_
               refine ops_y hH234 rfl rfl (yv_pick_f rfl rfl rfl) ?_
               refine ops_nil (thn_n ?_)
               refine cond_f rfl rfl ?_
               refine skip (thn_n (seq ?_))
               have hco := B.begun (g := (B.gw m l.length true)) hca hcb hl1 hlm
               have hgq := (B.gs_len m.length l.length (B.gw m l.length true) true (B.root l) hl1 hlm).1
               refine region_drawY (fun w' => Heap [bx b4 24 [u], bx b1 24 [v], base w] w') [13, 19] T.mixed (fun w242 hr243 => ?_)
               have hH244 := hH234.redrawn hr243
               refine any_takesT [0, 1, 2] (by kernel_rfl)  _ _ _ (by kernel_rfl) ?_
               refine qM rfl rfl rfl ?_
               refine qs_y rfl rfl (yv_eql rfl rfl) ?_
               refine qM rfl rfl rfl (qs_nil ?_)
               by_cases hc245 : (B.cg (l.length : Int) (m.length : Int) (B.gw m l.length true) (B.root l) (B.root m)) = 0
               ·skip
                refine any_takesT [3, 4, 5, 6, 7, 10, 14, 15, 16, 17] (by kernel_rfl)  _ _ _ (by kernel_rfl) ?_
                refine qW rfl rfl rfl (dT hc245) rfl rfl ?_
                refine qs_yes rfl rfl rfl (dT hc245) rfl (yv_not rfl) ?_
                refine qs_y rfl rfl (yv_pick_t rfl (dT hc245) rfl) ?_
                refine qM rfl rfl rfl ?_
                refine qs_yes rfl rfl rfl (bnot_t (dF hc237)) rfl (yv_field T.f24_0 rfl) ?_
                refine qs_yes rfl rfl rfl (bnot_t (dF hc237)) rfl (yv_field T.f24_0 rfl) ?_
                refine qW rfl rfl rfl (bnot_t (dF hc237)) rfl rfl ?_
                refine qW rfl rfl rfl (bnot_t (dF hc237)) rfl rfl ?_
                refine qW rfl rfl rfl (bnot_t (dF hc237)) rfl rfl ?_
                refine qW rfl rfl rfl (bnot_t (dF hc237)) rfl rfl ?_
                refine qs_nil ?_
                refine any_takesY [8, 11] (by kernel_rfl) (hH244.sub (sC sR)) _ _ _ (by kernel_rfl) ?_
                refine qs_yes rfl rfl rfl (bnot_t (dF hc237)) rfl (yv_load T.one22 rfl (fun _ hw => Heap.cellw hw (n := 1) rfl rfl)) ?_
                refine qs_yes rfl rfl rfl (bnot_t (dF hc237)) rfl (yv_load T.one22 rfl (fun _ hw => Heap.cellw hw (n := 0) rfl rfl)) ?_
                refine qs_nil ?_
                refine any_allY [9] (by kernel_rfl) rfl ?_
                refine ⟨⟨_, rfl, ?_⟩, trivial⟩
                ·skip
                 refine guard_yes rfl rfl (bnot_t (dF hc237)) ?_
                 refine op_fn rfl rfl rfl hH244 (c48 (h0.now hH244 (n := 3) rfl) (by omega) hinA) (fun u248 w246 lo249 hi250 hH247 hv251 => ?_)
                 have hH252 := Heap.toOw hH247 (n := 0) rfl
                 refine ops_nil ?_
                 refine ⟨fun _ _ => (hH252.sub (sC (sC sR))), ?_⟩
                 refine any_allY [12] (by kernel_rfl) rfl ?_
                 refine ⟨⟨_, rfl, ?_⟩, trivial⟩
                 ·skip
                  refine guard_yes rfl rfl (bnot_t (dF hc237)) ?_
                  refine op_fn rfl rfl rfl hH252 (c48 (h1.now hH252 (n := 4) rfl) (by omega) hinB) (fun u255 w253 lo256 hi257 hH254 hv258 => ?_)
                  have hH259 := Heap.toOw hH254 (n := 0) rfl
                  refine ops_nil ?_
                  refine ⟨fun _ _ => (hH259.sub (sC (sC (sC sR)))), ?_⟩
                  refine any_allY [13] (by kernel_rfl) rfl ?_
                  refine ⟨⟨_, rfl, ?_⟩, trivial⟩
                  ·skip
                   refine guard_yes rfl rfl (bnot_t (dF hc237)) ?_
                   refine op_append (n := 1) T.el56_encT rfl rfl rfl hH259 rfl (Heap.rdw T.el56_encT hH259 (n := 0) rfl) (by first | omega | (simp only [List.length_append, List.length_cons, List.length_nil]; omega)) (fun u260 lo262 hi263 w261 hH264 => ?_)
                   refine ops_nil ?_
                   refine ⟨(fun h => by cases h), ?_⟩
                   refine any_allY [18] (by kernel_rfl) rfl ?_
                   refine ⟨⟨_, rfl, ?_⟩, trivial⟩
                   ·skip
                    refine guard_yes rfl rfl (bnot_t (dF hc237)) ?_
                    refine op_fn rfl rfl rfl hH264 (c50 (m := l.length) (n := m.length) (p := (B.gw m l.length true)) (o := (B.root l)) (Heap.rdw T.el39_encW hH264 (n := 2) rfl) (by omega) (by omega) (by omega) (by omega)) (fun u267 w265 lo268 hi269 hH266 hv270 => ?_)
                    have hH271 := Heap.toOw hH266 (n := 0) rfl
                    refine ops_nil ?_
                    refine ⟨fun _ _ => (hH271.sub (sC (sC (sC (sC sR))))), ?_⟩
                    refine any_allY [19] (by kernel_rfl) rfl ?_
                    refine ⟨⟨_, rfl, ?_⟩, trivial⟩
                    ·skip
                     refine guard_yes rfl rfl (bnot_t (dF hc237)) ?_
                     refine op_append (n := 2) T.el56_encT rfl rfl rfl hH271 rfl (Heap.rdw T.el56_encT hH271 (n := 0) rfl) (by first | omega | (simp only [List.length_append, List.length_cons, List.length_nil]; omega)) (fun u272 lo274 hi275 w273 hH276 => ?_)
                     refine ops_nil ?_
                     refine ⟨(fun h => by cases h), ?_⟩
                     refine any_allY [20] (by kernel_rfl) rfl ?_
                     refine ⟨⟨_, rfl, ?_⟩, trivial⟩
                     ·skip
                      refine guard_yes rfl rfl (bnot_t (dF hc237)) ?_
                      refine op_fnV rfl rfl rfl hH276 (c47 (Heap.rdw T.el56_encT hH276 (n := 2) rfl) (B.begun_len hl1 hlm hm24) (B.begun_each hinA hinB hl1 hlm)) (fun w277 hH278 => ?_)
                      refine ops_nil ?_
                      refine ⟨fun _ _ => (hH278.sub (sC (sC (sC (sC sR))))), ?_⟩
                      refine any_takesT [21, 22] (by kernel_rfl)  _ _ _ (by kernel_rfl) ?_
                      refine qs_yes rfl rfl rfl (bnot_t (dF hc237)) rfl (yv_not rfl) ?_
                      refine qs_y rfl rfl (yv_pick_t rfl (bnot_t (dF hc237)) rfl) ?_
                      refine qs_nil ?_
                      refine any_doneY (by kernel_rfl) ?_
                      refine thn_n ?_
                      by_cases hc279 : B.coll (((B.strs l) ++ (B.strs m)) ++ (B.gs l.length m.length (B.gw m l.length true) true (B.root l)))
                      ·skip
                       refine cond_f rfl (not_decide_n hc279) ?_
                       refine skip (blk_n (thn_n (region (oM hH278 rfl rfl ?_))))
                       refine ops_y hH278 rfl rfl (yv_add rfl rfl (by omega)) ?_
                       refine oA hH278 rfl rfl (ops_nil ?_)
                       have hH280 := (hH278.sub (sC (sC (sC sR))))
                       refine lp_n (t + 1) (uC rfl (uC rfl (uC rfl (uC rfl (uC rfl (uC rfl (uC rfl (uC rfl (uC rfl (uC rfl (Sub.nil _))))))))))) ?_ ?_
                       ·exact ⟨hH280, by omega⟩
                       ·first | (dsimp only; omega) | (show _ < _; omega)
                      ·skip
                       refine cond_t rfl (not_decide_t hc279) ?_
                       refine seq ?_
                       have hbad : False := by first | omega | exact absurd (hco (by omega) ‹_›) ‹_›
                       refine region (oA hH278 rfl rfl (ops_nil (thn_n (ret (blk_r (thn_r (lp_r (blk_r (thn_r ?_)))))))))
                       have hH281 := (hH278.sub (sC (sC (sC (sC (sC (sC sR)))))))
                       refine fin hH281 (fun w' hf => (res1 rfl (show RV _ _ _ (.tmp 6) _ from rfl))) (fun w' hf => ?_)
                       first | rfl | exact hbad.elim
               ·skip
                refine any_takesT [3, 4, 5, 6, 7, 8, 9, 10, 11, 12, 13, 14, 15, 16, 17, 18, 19, 20, 21, 22] (by kernel_rfl)  _ _ _ (by kernel_rfl) ?_
                refine qs_no rfl rfl rfl (dF hc245) rfl ?_
                refine qs_no rfl rfl rfl (dF hc245) rfl ?_
                refine qs_y rfl rfl (yv_pick_f rfl (dF hc245) rfl) ?_
                refine qM rfl rfl rfl (qs_no rfl rfl rfl rfl rfl (qs_no rfl rfl rfl rfl rfl (qs_no rfl rfl rfl rfl rfl (qs_no rfl rfl rfl rfl rfl (qs_no rfl rfl rfl rfl rfl (qs_no rfl rfl rfl rfl rfl (qs_no rfl rfl rfl rfl rfl (qs_no rfl rfl rfl rfl rfl (qs_no rfl rfl rfl rfl rfl ?_)))))))))
                refine qs_no rfl rfl rfl rfl rfl (qs_no rfl rfl rfl rfl rfl (qs_no rfl rfl rfl rfl rfl (qs_no rfl rfl rfl rfl rfl (qs_no rfl rfl rfl rfl rfl (qs_no rfl rfl rfl rfl rfl ?_)))))
                refine qs_y rfl rfl (yv_pick_f rfl rfl rfl) ?_
                refine qs_nil ?_
                refine any_doneY (by kernel_rfl) ?_
                refine thn_n ?_
                refine cond_f rfl rfl ?_
                refine skip (blk_n (thn_n (region (oM hH244 rfl rfl ?_))))
                refine ops_y hH244 rfl rfl (yv_add rfl rfl (by omega)) ?_
                refine oA hH244 rfl rfl (ops_nil ?_)
                refine lp_n (t + 1) (uC rfl (uC rfl (uC rfl (uC rfl (uC rfl (uC rfl (uC rfl (uC rfl (uC rfl (uC rfl (Sub.nil _))))))))))) ?_ ?_
                ·exact ⟨hH244, by omega⟩
                ·first | (dsimp only; omega) | (show _ < _; omega)
             ·skip
              refine guard_no rfl rfl (dF hc236) rfl ?_
              refine guard_yes rfl rfl rfl ?_
              refine ops_y hH234 rfl rfl (yv_pick_f rfl (dF hc236) rfl) ?_
              refine guard_yes rfl rfl rfl (oM hH234 rfl rfl (guard_no rfl rfl rfl rfl (guard_no rfl rfl rfl rfl (guard_yes rfl rfl rfl ?_))))
              refine ops_y hH234 rfl rfl (yv_pick_f rfl rfl rfl) ?_
              refine ops_y hH234 rfl rfl (yv_pick_f rfl rfl rfl) ?_
              refine ops_nil (thn_n ?_)
              refine cond_f rfl rfl ?_
              refine skip (thn_n (seq ?_))
              have hco := B.begun (g := (B.gw m l.length true)) hca hcb hl1 hlm
              have hgq := (B.gs_len m.length l.length (B.gw m l.length true) true (B.root l) hl1 hlm).1
              refine region_drawY (fun w' => Heap [bx b4 24 [u], bx b1 24 [v], base w] w') [13, 19] T.mixed (fun w282 hr283 => ?_)
              have hH284 := hH234.redrawn hr283
              refine any_takesT [0, 1, 2] (by kernel_rfl)  _ _ _ (by kernel_rfl) ?_
              refine qM rfl rfl rfl ?_
              refine qs_y rfl rfl (yv_eql rfl rfl) ?_
              refine qM rfl rfl rfl (qs_nil ?_)
              by_cases hc285 : (B.cg (l.length : Int) (m.length : Int) (B.gw m l.length true) (B.root l) (B.root m)) = 0
              ·skip
               refine any_takesT [3, 4, 5, 6] (by kernel_rfl)  _ _ _ (by kernel_rfl) ?_
               refine qW rfl rfl rfl (dT hc285) rfl rfl ?_
               refine qs_yes rfl rfl rfl (dT hc285) rfl (yv_not rfl) ?_
               refine qs_y rfl rfl (yv_pick_t rfl (dT hc285) rfl) ?_
               refine qM rfl rfl rfl (qs_nil ?_)
               by_cases hc286 : l = (m.take (l.length : Int).toNat)
               ·skip
                refine any_takesT [7, 8, 9, 10, 11, 12, 13, 14, 15, 16, 17, 18, 19, 20, 21, 22] (by kernel_rfl)  _ _ _ (by kernel_rfl) ?_
                refine qs_no rfl rfl rfl (not_decide_n hc286) rfl ?_
                refine qs_no rfl rfl rfl (not_decide_n hc286) rfl ?_
                refine qs_no rfl rfl rfl (not_decide_n hc286) rfl ?_
                refine qs_no rfl rfl rfl (not_decide_n hc286) rfl ?_
                refine qs_no rfl rfl rfl (not_decide_n hc286) rfl ?_
                refine qs_no rfl rfl rfl (not_decide_n hc286) rfl ?_
                refine qs_no rfl rfl rfl (not_decide_n hc286) rfl ?_
                refine qs_no rfl rfl rfl (not_decide_n hc286) rfl ?_
                refine qs_no rfl rfl rfl (not_decide_n hc286) rfl ?_
                refine qs_no rfl rfl rfl (not_decide_n hc286) rfl ?_
                refine qs_no rfl rfl rfl (not_decide_n hc286) rfl ?_
                refine qs_no rfl rfl rfl (not_decide_n hc286) rfl ?_
                refine qs_no rfl rfl rfl (not_decide_n hc286) rfl ?_
                refine qs_no rfl rfl rfl (not_decide_n hc286) rfl ?_
                refine qs_no rfl rfl rfl (not_decide_n hc286) rfl ?_
                refine qs_y rfl rfl (yv_pick_f rfl (not_decide_n hc286) rfl) ?_
                refine qs_nil ?_
                refine any_doneY (by kernel_rfl) ?_
                refine thn_n ?_
                refine cond_f rfl rfl ?_
                refine skip (blk_n (thn_n (region (oM hH284 rfl rfl ?_))))
                refine ops_y hH284 rfl rfl (yv_add rfl rfl (by omega)) ?_
                refine oA hH284 rfl rfl (ops_nil ?_)
                refine lp_n (t + 1) (uC rfl (uC rfl (uC rfl (uC rfl (uC rfl (uC rfl (uC rfl (uC rfl (uC rfl (uC rfl (Sub.nil _))))))))))) ?_ ?_
                ·exact ⟨hH284, by omega⟩
                ·first | (dsimp only; omega) | (show _ < _; omega)
               ·skip
                refine any_takesT [7, 10, 14, 15, 16, 17] (by kernel_rfl)  _ _ _ (by kernel_rfl) ?_
                refine qs_yes rfl rfl rfl (not_decide_t hc286) rfl (yv_field T.f24_0 rfl) ?_
                refine qs_yes rfl rfl rfl (not_decide_t hc286) rfl (yv_field T.f24_0 rfl) ?_
                refine qW rfl rfl rfl (not_decide_t hc286) rfl rfl ?_
                refine qW rfl rfl rfl (not_decide_t hc286) rfl rfl ?_
                refine qW rfl rfl rfl (not_decide_t hc286) rfl rfl ?_
                refine qW rfl rfl rfl (not_decide_t hc286) rfl rfl ?_
                refine qs_nil ?_
                refine any_takesY [8, 11] (by kernel_rfl) (hH284.sub (sC sR)) _ _ _ (by kernel_rfl) ?_
                refine qs_yes rfl rfl rfl (not_decide_t hc286) rfl (yv_load T.one22 rfl (fun _ hw => Heap.cellw hw (n := 1) rfl rfl)) ?_
                refine qs_yes rfl rfl rfl (not_decide_t hc286) rfl (yv_load T.one22 rfl (fun _ hw => Heap.cellw hw (n := 0) rfl rfl)) ?_
                refine qs_nil ?_
                refine any_allY [9] (by kernel_rfl) rfl ?_
                refine ⟨⟨_, rfl, ?_⟩, trivial⟩
                ·skip
                 refine guard_yes rfl rfl (not_decide_t hc286) ?_
                 refine op_fn rfl rfl rfl hH284 (c48 (h0.now hH284 (n := 3) rfl) (by omega) hinA) (fun u289 w287 lo290 hi291 hH288 hv292 => ?_)
                 have hH293 := Heap.toOw hH288 (n := 0) rfl
                 refine ops_nil ?_
                 refine ⟨fun _ _ => (hH293.sub (sC (sC sR))), ?_⟩
                 refine any_allY [12] (by kernel_rfl) rfl ?_
                 refine ⟨⟨_, rfl, ?_⟩, trivial⟩
                 ·skip
                  refine guard_yes rfl rfl (not_decide_t hc286) ?_
                  refine op_fn rfl rfl rfl hH293 (c48 (h1.now hH293 (n := 4) rfl) (by omega) hinB) (fun u296 w294 lo297 hi298 hH295 hv299 => ?_)
                  have hH300 := Heap.toOw hH295 (n := 0) rfl
                  refine ops_nil ?_
                  refine ⟨fun _ _ => (hH300.sub (sC (sC (sC sR)))), ?_⟩
                  refine any_allY [13] (by kernel_rfl) rfl ?_
                  refine ⟨⟨_, rfl, ?_⟩, trivial⟩
                  ·skip
                   refine guard_yes rfl rfl (not_decide_t hc286) ?_
                   refine op_append (n := 1) T.el56_encT rfl rfl rfl hH300 rfl (Heap.rdw T.el56_encT hH300 (n := 0) rfl) (by first | omega | (simp only [List.length_append, List.length_cons, List.length_nil]; omega)) (fun u301 lo303 hi304 w302 hH305 => ?_)
                   refine ops_nil ?_
                   refine ⟨(fun h => by cases h), ?_⟩
                   refine any_allY [18] (by kernel_rfl) rfl ?_
                   refine ⟨⟨_, rfl, ?_⟩, trivial⟩
                   ·skip
                    refine guard_yes rfl rfl (not_decide_t hc286) ?_
                    refine op_fn rfl rfl rfl hH305 (c50 (m := l.length) (n := m.length) (p := (B.gw m l.length true)) (o := (B.root l)) (Heap.rdw T.el39_encW hH305 (n := 2) rfl) (by omega) (by omega) (by omega) (by omega)) (fun u308 w306 lo309 hi310 hH307 hv311 => ?_)
                    have hH312 := Heap.toOw hH307 (n := 0) rfl
                    refine ops_nil ?_
                    refine ⟨fun _ _ => (hH312.sub (sC (sC (sC (sC sR))))), ?_⟩
                    refine any_allY [19] (by kernel_rfl) rfl ?_
                    refine ⟨⟨_, rfl, ?_⟩, trivial⟩
                    ·skip
                     refine guard_yes rfl rfl (not_decide_t hc286) ?_
                     refine op_append (n := 2) T.el56_encT rfl rfl rfl hH312 rfl (Heap.rdw T.el56_encT hH312 (n := 0) rfl) (by first | omega | (simp only [List.length_append, List.length_cons, List.length_nil]; omega)) (fun u313 lo315 hi316 w314 hH317 => ?_)
                     refine ops_nil ?_
                     refine ⟨(fun h => by cases h), ?_⟩
                     refine any_allY [20] (by kernel_rfl) rfl ?_
                     refine ⟨⟨_, rfl, ?_⟩, trivial⟩
                     ·skip
                      refine guard_yes rfl rfl (not_decide_t hc286) ?_
                      refine op_fnV rfl rfl rfl hH317 (c47 (Heap.rdw T.el56_encT hH317 (n := 2) rfl) (B.begun_len hl1 hlm hm24) (B.begun_each hinA hinB hl1 hlm)) (fun w318 hH319 => ?_)
                      refine ops_nil ?_
                      refine ⟨fun _ _ => (hH319.sub (sC (sC (sC (sC sR))))), ?_⟩
                      refine any_takesT [21, 22] (by kernel_rfl)  _ _ _ (by kernel_rfl) ?_
                      refine qs_yes rfl rfl rfl (not_decide_t hc286) rfl (yv_not rfl) ?_
                      refine qs_y rfl rfl (yv_pick_t rfl (not_decide_t hc286) rfl) ?_
                      refine qs_nil ?_
                      refine any_doneY (by kernel_rfl) ?_
                      refine thn_n ?_
                      by_cases hc320 : B.coll (((B.strs l) ++ (B.strs m)) ++ (B.gs l.length m.length (B.gw m l.length true) true (B.root l)))
                      ·skip
                       refine cond_f rfl (not_decide_n hc320) ?_
                       refine skip (blk_n (thn_n (region (oM hH319 rfl rfl ?_))))
                       refine ops_y hH319 rfl rfl (yv_add rfl rfl (by omega)) ?_
                       refine oA hH319 rfl rfl (ops_nil ?_)
                       have hH321 := (hH319.sub (sC (sC (sC sR))))
                       refine lp_n (t + 1) (uC rfl (uC rfl (uC rfl (uC rfl (uC rfl (uC rfl (uC rfl (uC rfl (uC rfl (uC rfl (Sub.nil _))))))))))) ?_ ?_
                       ·exact ⟨hH321, by omega⟩
                       ·first | (dsimp only; omega) | (show _ < _; omega)
                      ·skip
                       refine cond_t rfl (not_decide_t hc320) ?_
                       refine seq ?_
                       have hbad : False := by first | omega | exact absurd (hco (by omega) ‹_›) ‹_›
                       refine region (oA hH319 rfl rfl (ops_nil (thn_n (ret (blk_r (thn_r (lp_r (blk_r (thn_r ?_)))))))))
                       have hH322 := (hH319.sub (sC (sC (sC (sC (sC (sC sR)))))))
                       refine fin hH322 (fun w' hf => (res1 rfl (show RV _ _ _ (.tmp 6) _ from rfl))) (fun w' hf => ?_)
                       first | rfl | exact hbad.elim
              ·skip
               refine any_takesT [3, 4, 5, 6, 7, 8, 9, 10, 11, 12, 13, 14, 15, 16, 17, 18, 19, 20, 21, 22] (by kernel_rfl)  _ _ _ (by kernel_rfl) ?_
               refine qs_no rfl rfl rfl (dF hc285) rfl ?_
               refine qs_no rfl rfl rfl (dF hc285) rfl ?_
               refine qs_y rfl rfl (yv_pick_f rfl (dF hc285) rfl) ?_
               refine qM rfl rfl rfl (qs_no rfl rfl rfl rfl rfl (qs_no rfl rfl rfl rfl rfl (qs_no rfl rfl rfl rfl rfl (qs_no rfl rfl rfl rfl rfl (qs_no rfl rfl rfl rfl rfl (qs_no rfl rfl rfl rfl rfl (qs_no rfl rfl rfl rfl rfl (qs_no rfl rfl rfl rfl rfl (qs_no rfl rfl rfl rfl rfl ?_)))))))))
               refine qs_no rfl rfl rfl rfl rfl (qs_no rfl rfl rfl rfl rfl (qs_no rfl rfl rfl rfl rfl (qs_no rfl rfl rfl rfl rfl (qs_no rfl rfl rfl rfl rfl (qs_no rfl rfl rfl rfl rfl ?_)))))
               refine qs_y rfl rfl (yv_pick_f rfl rfl rfl) ?_
               refine qs_nil ?_
               refine any_doneY (by kernel_rfl) ?_
               refine thn_n ?_
               refine cond_f rfl rfl ?_
               refine skip (blk_n (thn_n (region (oM hH284 rfl rfl ?_))))
               refine ops_y hH284 rfl rfl (yv_add rfl rfl (by omega)) ?_
               refine oA hH284 rfl rfl (ops_nil ?_)
               refine lp_n (t + 1) (uC rfl (uC rfl (uC rfl (uC rfl (uC rfl (uC rfl (uC rfl (uC rfl (uC rfl (uC rfl (Sub.nil _))))))))))) ?_ ?_
               ·exact ⟨hH284, by omega⟩
               ·first | (dsimp only; omega) | (show _ < _; omega)
            ·skip
             refine guard_yes rfl rfl (not_decide_t hc235) ?_
             refine oM hH234 rfl rfl ?_
             refine guard_yes rfl rfl (not_decide_t hc235) ?_
             refine ops_y hH234 rfl rfl (yv_neq rfl rfl) ?_
             refine ops_y hH234 rfl rfl (yv_pick_t rfl (not_decide_t hc235) rfl) ?_
             refine oM hH234 rfl rfl ?_
             by_cases hc323 : (B.cg (l.length : Int) (m.length : Int) (B.gw m l.length true) (B.root l) (B.root m)) = 25
             ·skip
              refine guard_yes rfl rfl (not_decide_n hc323) ?_
              refine oM hH234 rfl rfl ?_
              refine guard_yes rfl rfl (not_decide_n hc323) ?_
              refine ops_y hH234 rfl rfl (yv_eql rfl rfl) ?_
              refine guard_yes rfl rfl (not_decide_n hc323) ?_
              refine oM hH234 rfl rfl ?_
              by_cases hc324 : (t : Int) = 0
              ·skip
               refine guard_yes rfl rfl (dT hc324) ?_
               refine oM hH234 rfl rfl ?_
               refine guard_yes rfl rfl (not_decide_n hc323) ?_
               refine ops_y hH234 rfl rfl (yv_pick_t rfl (dT hc324) rfl) ?_
               refine guard_yes rfl rfl (not_decide_n hc323) ?_
               refine oM hH234 rfl rfl ?_
               by_cases hc325 : l = (m.take (l.length : Int).toNat)
               ·skip
                refine guard_yes rfl rfl (dT hc325) ?_
                refine oM hH234 rfl rfl ?_
                refine guard_yes rfl rfl (dT hc325) ?_
                refine ops_y hH234 rfl rfl (yv_neq rfl rfl) ?_
                refine guard_yes rfl rfl (not_decide_n hc323) ?_
                refine ops_y hH234 rfl rfl (yv_pick_t rfl (dT hc325) rfl) ?_
                refine ops_y hH234 rfl rfl (yv_pick_f rfl (not_decide_n hc323) rfl) ?_
                refine ops_nil (thn_n ?_)
                refine cond_t rfl (not_decide_t hc235) ?_
                refine seq ?_
                have hbad : False := by first | omega | exact absurd (hcs ‹_›) ‹_›
                refine region (oA hH234 rfl rfl (ops_nil (thn_n (ret (thn_r (blk_r (thn_r (lp_r (blk_r ?_)))))))))
                refine thn_r ?_
                have hH326 := (hH234.sub (sC (sC (sC sR))))
                refine fin hH326 (fun w' hf => (res1 rfl (show RV _ _ _ (.tmp 6) _ from rfl))) (fun w' hf => ?_)
                first | rfl | exact hbad.elim
               ·skip
                refine guard_no rfl rfl (dF hc325) rfl ?_
                refine guard_no rfl rfl (dF hc325) rfl ?_
                refine guard_yes rfl rfl (not_decide_n hc323) ?_
                refine ops_y hH234 rfl rfl (yv_pick_f rfl (dF hc325) rfl) ?_
                refine ops_y hH234 rfl rfl (yv_pick_f rfl (not_decide_n hc323) rfl) ?_
                refine ops_nil (thn_n ?_)
                refine cond_f rfl rfl ?_
                refine skip (thn_n (seq ?_))
                have hco := B.begun (g := (B.gw m l.length true)) hca hcb hl1 hlm
                have hgq := (B.gs_len m.length l.length (B.gw m l.length true) true (B.root l) hl1 hlm).1
                refine region_drawY (fun w' => Heap [bx b4 24 [u], bx b1 24 [v], base w] w') [13, 19] T.mixed (fun w327 hr328 => ?_)
                have hH329 := hH234.redrawn hr328
                refine any_takesT [0, 1, 2] (by kernel_rfl)  _ _ _ (by kernel_rfl) ?_
                refine qM rfl rfl rfl ?_
                refine qs_y rfl rfl (yv_eql rfl rfl) ?_
                refine qM rfl rfl rfl (qs_nil ?_)
                by_cases hc330 : (B.cg (l.length : Int) (m.length : Int) (B.gw m l.length true) (B.root l) (B.root m)) = 0
                ·skip
                 refine any_takesT [3, 4, 5, 6, 7, 10, 14, 15, 16, 17] (by kernel_rfl)  _ _ _ (by kernel_rfl) ?_
                 refine qW rfl rfl rfl (dT hc330) rfl rfl ?_
                 refine qs_yes rfl rfl rfl (dT hc330) rfl (yv_not rfl) ?_
                 refine qs_y rfl rfl (yv_pick_t rfl (dT hc330) rfl) ?_
                 refine qM rfl rfl rfl ?_
                 refine qs_yes rfl rfl rfl (bnot_t (dF hc325)) rfl (yv_field T.f24_0 rfl) ?_
                 refine qs_yes rfl rfl rfl (bnot_t (dF hc325)) rfl (yv_field T.f24_0 rfl) ?_
                 refine qW rfl rfl rfl (bnot_t (dF hc325)) rfl rfl ?_
                 refine qW rfl rfl rfl (bnot_t (dF hc325)) rfl rfl ?_
                 refine qW rfl rfl rfl (bnot_t (dF hc325)) rfl rfl ?_
                 refine qW rfl rfl rfl (bnot_t (dF hc325)) rfl rfl ?_
                 refine qs_nil ?_
                 refine any_takesY [8, 11] (by kernel_rfl) (hH329.sub (sC sR)) _ _ _ (by kernel_rfl) ?_
                 refine qs_yes rfl rfl rfl (bnot_t (dF hc325)) rfl (yv_load T.one22 rfl (fun _ hw => Heap.cellw hw (n := 1) rfl rfl)) ?_
                 refine qs_yes rfl rfl rfl (bnot_t (dF hc325)) rfl (yv_load T.one22 rfl (fun _ hw => Heap.cellw hw (n := 0) rfl rfl)) ?_
                 refine qs_nil ?_
                 refine any_allY [9] (by kernel_rfl) rfl ?_
                 refine ⟨⟨_, rfl, ?_⟩, trivial⟩
                 ·skip
                  refine guard_yes rfl rfl (bnot_t (dF hc325)) ?_
                  refine op_fn rfl rfl rfl hH329 (c48 (h0.now hH329 (n := 3) rfl) (by omega) hinA) (fun u333 w331 lo334 hi335 hH332 hv336 => ?_)
                  have hH337 := Heap.toOw hH332 (n := 0) rfl
                  refine ops_nil ?_
                  refine ⟨fun _ _ => (hH337.sub (sC (sC sR))), ?_⟩
                  refine any_allY [12] (by kernel_rfl) rfl ?_
                  refine ⟨⟨_, rfl, ?_⟩, trivial⟩
                  ·skip
                   refine guard_yes rfl rfl (bnot_t (dF hc325)) ?_
                   refine op_fn rfl rfl rfl hH337 (c48 (h1.now hH337 (n := 4) rfl) (by omega) hinB) (fun u340 w338 lo341 hi342 hH339 hv343 => ?_)
                   have hH344 := Heap.toOw hH339 (n := 0) rfl
                   refine ops_nil ?_
                   refine ⟨fun _ _ => (hH344.sub (sC (sC (sC sR)))), ?_⟩
                   refine any_allY [13] (by kernel_rfl) rfl ?_
                   refine ⟨⟨_, rfl, ?_⟩, trivial⟩
                   ·skip
                    refine guard_yes rfl rfl (bnot_t (dF hc325)) ?_
                    refine op_append (n := 1) T.el56_encT rfl rfl rfl hH344 rfl (Heap.rdw T.el56_encT hH344 (n := 0) rfl) (by first | omega | (simp only [List.length_append, List.length_cons, List.length_nil]; omega)) (fun u345 lo347 hi348 w346 hH349 => ?_)
                    refine ops_nil ?_
                    refine ⟨(fun h => by cases h), ?_⟩
                    refine any_allY [18] (by kernel_rfl) rfl ?_
                    refine ⟨⟨_, rfl, ?_⟩, trivial⟩
                    ·skip
                     refine guard_yes rfl rfl (bnot_t (dF hc325)) ?_
                     refine op_fn rfl rfl rfl hH349 (c50 (m := l.length) (n := m.length) (p := (B.gw m l.length true)) (o := (B.root l)) (Heap.rdw T.el39_encW hH349 (n := 2) rfl) (by omega) (by omega) (by omega) (by omega)) (fun u352 w350 lo353 hi354 hH351 hv355 => ?_)
                     have hH356 := Heap.toOw hH351 (n := 0) rfl
                     refine ops_nil ?_
                     refine ⟨fun _ _ => (hH356.sub (sC (sC (sC (sC sR))))), ?_⟩
                     refine any_allY [19] (by kernel_rfl) rfl ?_
                     refine ⟨⟨_, rfl, ?_⟩, trivial⟩
                     ·skip
                      refine guard_yes rfl rfl (bnot_t (dF hc325)) ?_
                      refine op_append (n := 2) T.el56_encT rfl rfl rfl hH356 rfl (Heap.rdw T.el56_encT hH356 (n := 0) rfl) (by first | omega | (simp only [List.length_append, List.length_cons, List.length_nil]; omega)) (fun u357 lo359 hi360 w358 hH361 => ?_)
                      refine ops_nil ?_
                      refine ⟨(fun h => by cases h), ?_⟩
                      refine any_allY [20] (by kernel_rfl) rfl ?_
                      refine ⟨⟨_, rfl, ?_⟩, trivial⟩
                      ·skip
                       refine guard_yes rfl rfl (bnot_t (dF hc325)) ?_
                       refine op_fnV rfl rfl rfl hH361 (c47 (Heap.rdw T.el56_encT hH361 (n := 2) rfl) (B.begun_len hl1 hlm hm24) (B.begun_each hinA hinB hl1 hlm)) (fun w362 hH363 => ?_)
                       refine ops_nil ?_
                       refine ⟨fun _ _ => (hH363.sub (sC (sC (sC (sC sR))))), ?_⟩
                       refine any_takesT [21, 22] (by kernel_rfl)  _ _ _ (by kernel_rfl) ?_
                       refine qs_yes rfl rfl rfl (bnot_t (dF hc325)) rfl (yv_not rfl) ?_
                       refine qs_y rfl rfl (yv_pick_t rfl (bnot_t (dF hc325)) rfl) ?_
                       refine qs_nil ?_
                       refine any_doneY (by kernel_rfl) ?_
                       refine thn_n ?_
                       by_cases hc364 : B.coll (((B.strs l) ++ (B.strs m)) ++ (B.gs l.length m.length (B.gw m l.length true) true (B.root l)))
                       ·skip
                        refine cond_f rfl (not_decide_n hc364) ?_
                        refine skip (blk_n (thn_n (region (oM hH363 rfl rfl ?_))))
                        refine ops_y hH363 rfl rfl (yv_add rfl rfl (by omega)) ?_
                        refine oA hH363 rfl rfl (ops_nil ?_)
                        have hH365 := (hH363.sub (sC (sC (sC sR))))
                        refine lp_n (t + 1) (uC rfl (uC rfl (uC rfl (uC rfl (uC rfl (uC rfl (uC rfl (uC rfl (uC rfl (uC rfl (Sub.nil _))))))))))) ?_ ?_
                        ·exact ⟨hH365, by omega⟩
                        ·first | (dsimp only; omega) | (show _ < _; omega)
                       ·skip
                        refine cond_t rfl (not_decide_t hc364) ?_
                        refine seq ?_
                        have hbad : False := by first | omega | exact absurd (hco (by omega) ‹_›) ‹_›
                        refine region (oA hH363 rfl rfl (ops_nil (thn_n (ret (blk_r (thn_r (lp_r (blk_r (thn_r ?_)))))))))
                        have hH366 := (hH363.sub (sC (sC (sC (sC (sC (sC sR)))))))
                        refine fin hH366 (fun w' hf => (res1 rfl (show RV _ _ _ (.tmp 6) _ from rfl))) (fun w' hf => ?_)
                        first | rfl | exact hbad.elim
                ·skip
                 refine any_takesT [3, 4, 5, 6, 7, 8, 9, 10, 11, 12, 13, 14, 15, 16, 17, 18, 19, 20, 21, 22] (by kernel_rfl)  _ _ _ (by kernel_rfl) ?_
                 refine qs_no rfl rfl rfl (dF hc330) rfl ?_
                 refine qs_no rfl rfl rfl (dF hc330) rfl ?_
                 refine qs_y rfl rfl (yv_pick_f rfl (dF hc330) rfl) ?_
                 refine qM rfl rfl rfl (qs_no rfl rfl rfl rfl rfl (qs_no rfl rfl rfl rfl rfl (qs_no rfl rfl rfl rfl rfl (qs_no rfl rfl rfl rfl rfl (qs_no rfl rfl rfl rfl rfl (qs_no rfl rfl rfl rfl rfl (qs_no rfl rfl rfl rfl rfl (qs_no rfl rfl rfl rfl rfl (qs_no rfl rfl rfl rfl rfl ?_)))))))))
                 refine qs_no rfl rfl rfl rfl rfl (qs_no rfl rfl rfl rfl rfl (qs_no rfl rfl rfl rfl rfl (qs_no rfl rfl rfl rfl rfl (qs_no rfl rfl rfl rfl rfl (qs_no rfl rfl rfl rfl rfl ?_)))))
                 refine qs_y rfl rfl (yv_pick_f rfl rfl rfl) ?_
                 refine qs_nil ?_
                 refine any_doneY (by kernel_rfl) ?_
                 refine thn_n ?_
                 refine cond_f rfl rfl ?_
                 refine skip (blk_n (thn_n (region (oM hH329 rfl rfl ?_))))
                 refine ops_y hH329 rfl rfl (yv_add rfl rfl (by omega)) ?_
                 refine oA hH329 rfl rfl (ops_nil ?_)
                 refine lp_n (t + 1) (uC rfl (uC rfl (uC rfl (uC rfl (uC rfl (uC rfl (uC rfl (uC rfl (uC rfl (uC rfl (Sub.nil _))))))))))) ?_ ?_
                 ·exact ⟨hH329, by omega⟩
                 ·first | (dsimp only; omega) | (show _ < _; omega)
              ·skip
               refine guard_no rfl rfl (dF hc324) rfl ?_
               refine guard_yes rfl rfl (not_decide_n hc323) ?_
               refine ops_y hH234 rfl rfl (yv_pick_f rfl (dF hc324) rfl) ?_
               refine guard_yes rfl rfl (not_decide_n hc323) ?_
               refine oM hH234 rfl rfl (guard_no rfl rfl rfl rfl (guard_no rfl rfl rfl rfl ?_))
               refine guard_yes rfl rfl (not_decide_n hc323) ?_
               refine ops_y hH234 rfl rfl (yv_pick_f rfl rfl rfl) ?_
               refine ops_y hH234 rfl rfl (yv_pick_f rfl (not_decide_n hc323) rfl) ?_
               refine ops_nil (thn_n ?_)
               refine cond_f rfl rfl ?_
               refine skip (thn_n (seq ?_))
               have hco := B.begun (g := (B.gw m l.length true)) hca hcb hl1 hlm
               have hgq := (B.gs_len m.length l.length (B.gw m l.length true) true (B.root l) hl1 hlm).1
               refine region_drawY (fun w' => Heap [bx b4 24 [u], bx b1 24 [v], base w] w') [13, 19] T.mixed (fun w367 hr368 => ?_)
               have hH369 := hH234.redrawn hr368
               refine any_takesT [0, 1, 2] (by kernel_rfl)  _ _ _ (by kernel_rfl) ?_
               refine qM rfl rfl rfl ?_
               refine qs_y rfl rfl (yv_eql rfl rfl) ?_
               refine qM rfl rfl rfl (qs_nil ?_)
               by_cases hc370 : (B.cg (l.length : Int) (m.length : Int) (B.gw m l.length true) (B.root l) (B.root m)) = 0
               ·skip
                refine any_takesT [3, 4, 5, 6] (by kernel_rfl)  _ _ _ (by kernel_rfl) ?_
                refine qW rfl rfl rfl (dT hc370) rfl rfl ?_
                refine qs_yes rfl rfl rfl (dT hc370) rfl (yv_not rfl) ?_
                refine qs_y rfl rfl (yv_pick_t rfl (dT hc370) rfl) ?_
                refine qM rfl rfl rfl (qs_nil ?_)
                by_cases hc371 : l = (m.take (l.length : Int).toNat)
                ·skip
                 refine any_takesT [7, 8, 9, 10, 11, 12, 13, 14, 15, 16, 17, 18, 19, 20, 21, 22] (by kernel_rfl)  _ _ _ (by kernel_rfl) ?_
                 refine qs_no rfl rfl rfl (not_decide_n hc371) rfl ?_
                 refine qs_no rfl rfl rfl (not_decide_n hc371) rfl ?_
                 refine qs_no rfl rfl rfl (not_decide_n hc371) rfl ?_
                 refine qs_no rfl rfl rfl (not_decide_n hc371) rfl ?_
                 refine qs_no rfl rfl rfl (not_decide_n hc371) rfl ?_
                 refine qs_no rfl rfl rfl (not_decide_n hc371) rfl ?_
                 refine qs_no rfl rfl rfl (not_decide_n hc371) rfl ?_
                 refine qs_no rfl rfl rfl (not_decide_n hc371) rfl ?_
                 refine qs_no rfl rfl rfl (not_decide_n hc371) rfl ?_
                 refine qs_no rfl rfl rfl (not_decide_n hc371) rfl ?_
                 refine qs_no rfl rfl rfl (not_decide_n hc371) rfl ?_
                 refine qs_no rfl rfl rfl (not_decide_n hc371) rfl ?_
                 refine qs_no rfl rfl rfl (not_decide_n hc371) rfl ?_
                 refine qs_no rfl rfl rfl (not_decide_n hc371) rfl ?_
                 refine qs_no rfl rfl rfl (not_decide_n hc371) rfl ?_
                 refine qs_y rfl rfl (yv_pick_f rfl (not_decide_n hc371) rfl) ?_
                 refine qs_nil ?_
                 refine any_doneY (by kernel_rfl) ?_
                 refine thn_n ?_
                 refine cond_f rfl rfl ?_
                 refine skip (blk_n (thn_n (region (oM hH369 rfl rfl ?_))))
                 refine ops_y hH369 rfl rfl (yv_add rfl rfl (by omega)) ?_
                 refine oA hH369 rfl rfl (ops_nil ?_)
                 refine lp_n (t + 1) (uC rfl (uC rfl (uC rfl (uC rfl (uC rfl (uC rfl (uC rfl (uC rfl (uC rfl (uC rfl (Sub.nil _))))))))))) ?_ ?_
                 ·exact ⟨hH369, by omega⟩
                 ·first | (dsimp only; omega) | (show _ < _; omega)
                ·skip
                 refine any_takesT [7, 10, 14, 15, 16, 17] (by kernel_rfl)  _ _ _ (by kernel_rfl) ?_
                 refine qs_yes rfl rfl rfl (not_decide_t hc371) rfl (yv_field T.f24_0 rfl) ?_
                 refine qs_yes rfl rfl rfl (not_decide_t hc371) rfl (yv_field T.f24_0 rfl) ?_
                 refine qW rfl rfl rfl (not_decide_t hc371) rfl rfl ?_
                 refine qW rfl rfl rfl (not_decide_t hc371) rfl rfl ?_
                 refine qW rfl rfl rfl (not_decide_t hc371) rfl rfl ?_
                 refine qW rfl rfl rfl (not_decide_t hc371) rfl rfl ?_
                 refine qs_nil ?_
                 refine any_takesY [8, 11] (by kernel_rfl) (hH369.sub (sC sR)) _ _ _ (by kernel_rfl) ?_
                 refine qs_yes rfl rfl rfl (not_decide_t hc371) rfl (yv_load T.one22 rfl (fun _ hw => Heap.cellw hw (n := 1) rfl rfl)) ?_
                 refine qs_yes rfl rfl rfl (not_decide_t hc371) rfl (yv_load T.one22 rfl (fun _ hw => Heap.cellw hw (n := 0) rfl rfl)) ?_
                 refine qs_nil ?_
                 refine any_allY [9] (by kernel_rfl) rfl ?_
                 refine ⟨⟨_, rfl, ?_⟩, trivial⟩
                 ·skip
                  refine guard_yes rfl rfl (not_decide_t hc371) ?_
                  refine op_fn rfl rfl rfl hH369 (c48 (h0.now hH369 (n := 3) rfl) (by omega) hinA) (fun u374 w372 lo375 hi376 hH373 hv377 => ?_)
                  have hH378 := Heap.toOw hH373 (n := 0) rfl
                  refine ops_nil ?_
                  refine ⟨fun _ _ => (hH378.sub (sC (sC sR))), ?_⟩
                  refine any_allY [12] (by kernel_rfl) rfl ?_
                  refine ⟨⟨_, rfl, ?_⟩, trivial⟩
                  ·skip
                   refine guard_yes rfl rfl (not_decide_t hc371) ?_
                   refine op_fn rfl rfl rfl hH378 (c48 (h1.now hH378 (n := 4) rfl) (by omega) hinB) (fun u381 w379 lo382 hi383 hH380 hv384 => ?_)
                   have hH385 := Heap.toOw hH380 (n := 0) rfl
                   refine ops_nil ?_
                   refine ⟨fun _ _ => (hH385.sub (sC (sC (sC sR)))), ?_⟩
                   refine any_allY [13] (by kernel_rfl) rfl ?_
                   refine ⟨⟨_, rfl, ?_⟩, trivial⟩
                   ·skip
                    refine guard_yes rfl rfl (not_decide_t hc371) ?_
                    refine op_append (n := 1) T.el56_encT rfl rfl rfl hH385 rfl (Heap.rdw T.el56_encT hH385 (n := 0) rfl) (by first | omega | (simp only [List.length_append, List.length_cons, List.length_nil]; omega)) (fun u386 lo388 hi389 w387 hH390 => ?_)
                    refine ops_nil ?_
                    refine ⟨(fun h => by cases h), ?_⟩
                    refine any_allY [18] (by kernel_rfl) rfl ?_
                    refine ⟨⟨_, rfl, ?_⟩, trivial⟩
                    ·skip
                     refine guard_yes rfl rfl (not_decide_t hc371) ?_
                     refine op_fn rfl rfl rfl hH390 (c50 (m := l.length) (n := m.length) (p := (B.gw m l.length true)) (o := (B.root l)) (Heap.rdw T.el39_encW hH390 (n := 2) rfl) (by omega) (by omega) (by omega) (by omega)) (fun u393 w391 lo394 hi395 hH392 hv396 => ?_)
                     have hH397 := Heap.toOw hH392 (n := 0) rfl
                     refine ops_nil ?_
                     refine ⟨fun _ _ => (hH397.sub (sC (sC (sC (sC sR))))), ?_⟩
                     refine any_allY [19] (by kernel_rfl) rfl ?_
                     refine ⟨⟨_, rfl, ?_⟩, trivial⟩
                     ·skip
                      refine guard_yes rfl rfl (not_decide_t hc371) ?_
                      refine op_append (n := 2) T.el56_encT rfl rfl rfl hH397 rfl (Heap.rdw T.el56_encT hH397 (n := 0) rfl) (by first | omega | (simp only [List.length_append, List.length_cons, List.length_nil]; omega)) (fun u398 lo400 hi401 w399 hH402 => ?_)
                      refine ops_nil ?_
                      refine ⟨(fun h => by cases h), ?_⟩
                      refine any_allY [20] (by kernel_rfl) rfl ?_
                      refine ⟨⟨_, rfl, ?_⟩, trivial⟩
                      ·skip
                       refine guard_yes rfl rfl (not_decide_t hc371) ?_
                       refine op_fnV rfl rfl rfl hH402 (c47 (Heap.rdw T.el56_encT hH402 (n := 2) rfl) (B.begun_len hl1 hlm hm24) (B.begun_each hinA hinB hl1 hlm)) (fun w403 hH404 => ?_)
                       refine ops_nil ?_
                       refine ⟨fun _ _ => (hH404.sub (sC (sC (sC (sC sR))))), ?_⟩
                       refine any_takesT [21, 22] (by kernel_rfl)  _ _ _ (by kernel_rfl) ?_
                       refine qs_yes rfl rfl rfl (not_decide_t hc371) rfl (yv_not rfl) ?_
                       refine qs_y rfl rfl (yv_pick_t rfl (not_decide_t hc371) rfl) ?_
                       refine qs_nil ?_
                       refine any_doneY (by kernel_rfl) ?_
                       refine thn_n ?_
                       by_cases hc405 : B.coll (((B.strs l) ++ (B.strs m)) ++ (B.gs l.length m.length (B.gw m l.length true) true (B.root l)))
                       ·skip
                        refine cond_f rfl (not_decide_n hc405) ?_
                        refine skip (blk_n (thn_n (region (oM hH404 rfl rfl ?_))))
                        refine ops_y hH404 rfl rfl (yv_add rfl rfl (by omega)) ?_
                        refine oA hH404 rfl rfl (ops_nil ?_)
                        have hH406 := (hH404.sub (sC (sC (sC sR))))
                        refine lp_n (t + 1) (uC rfl (uC rfl (uC rfl (uC rfl (uC rfl (uC rfl (uC rfl (uC rfl (uC rfl (uC rfl (Sub.nil _))))))))))) ?_ ?_
                        ·exact ⟨hH406, by omega⟩
                        ·first | (dsimp only; omega) | (show _ < _; omega)
                       ·skip
                        refine cond_t rfl (not_decide_t hc405) ?_
                        refine seq ?_
                        have hbad : False := by first | omega | exact absurd (hco (by omega) ‹_›) ‹_›
                        refine region (oA hH404 rfl rfl (ops_nil (thn_n (ret (blk_r (thn_r (lp_r (blk_r (thn_r ?_)))))))))
                        have hH407 := (hH404.sub (sC (sC (sC (sC (sC (sC sR)))))))
                        refine fin hH407 (fun w' hf => (res1 rfl (show RV _ _ _ (.tmp 6) _ from rfl))) (fun w' hf => ?_)
                        first | rfl | exact hbad.elim
               ·skip
                refine any_takesT [3, 4, 5, 6, 7, 8, 9, 10, 11, 12, 13, 14, 15, 16, 17, 18, 19, 20, 21, 22] (by kernel_rfl)  _ _ _ (by kernel_rfl) ?_
                refine qs_no rfl rfl rfl (dF hc370) rfl ?_
                refine qs_no rfl rfl rfl (dF hc370) rfl ?_
                refine qs_y rfl rfl (yv_pick_f rfl (dF hc370) rfl) ?_
                refine qM rfl rfl rfl (qs_no rfl rfl rfl rfl rfl (qs_no rfl rfl rfl rfl rfl (qs_no rfl rfl rfl rfl rfl (qs_no rfl rfl rfl rfl rfl (qs_no rfl rfl rfl rfl rfl (qs_no rfl rfl rfl rfl rfl (qs_no rfl rfl rfl rfl rfl (qs_no rfl rfl rfl rfl rfl (qs_no rfl rfl rfl rfl rfl ?_)))))))))
                refine qs_no rfl rfl rfl rfl rfl (qs_no rfl rfl rfl rfl rfl (qs_no rfl rfl rfl rfl rfl (qs_no rfl rfl rfl rfl rfl (qs_no rfl rfl rfl rfl rfl (qs_no rfl rfl rfl rfl rfl ?_)))))
                refine qs_y rfl rfl (yv_pick_f rfl rfl rfl) ?_
                refine qs_nil ?_
                refine any_doneY (by kernel_rfl) ?_
                refine thn_n ?_
                refine cond_f rfl rfl ?_
                refine skip (blk_n (thn_n (region (oM hH369 rfl rfl ?_))))
                refine ops_y hH369 rfl rfl (yv_add rfl rfl (by omega)) ?_
                refine oA hH369 rfl rfl (ops_nil ?_)
                refine lp_n (t + 1) (uC rfl (uC rfl (uC rfl (uC rfl (uC rfl (uC rfl (uC rfl (uC rfl (uC rfl (uC rfl (Sub.nil _))))))))))) ?_ ?_
                ·exact ⟨hH369, by omega⟩
                ·first | (dsimp only; omega) | (show _ < _; omega)
             ·skip
              refine guard_no rfl rfl (not_decide_t hc323) rfl ?_
              refine guard_no rfl rfl (not_decide_t hc323) rfl ?_
              refine guard_no rfl rfl (not_decide_t hc323) rfl ?_
              refine guard_none rfl rfl rfl ?_
              refine guard_no rfl rfl (not_decide_t hc323) rfl ?_
              refine guard_no rfl rfl (not_decide_t hc323) rfl ?_
              refine guard_none rfl rfl rfl ?_
              refine guard_none rfl rfl rfl ?_
              refine guard_no rfl rfl (not_decide_t hc323) rfl ?_
              refine ops_y hH234 rfl rfl (yv_pick_t rfl (not_decide_t hc323) rfl) ?_
              refine ops_nil (thn_n ?_)
              refine cond_t rfl rfl ?_
              refine seq ?_
              have hbad : False := by first | omega | exact absurd (hcs ‹_›) ‹_›
              refine region (oA hH234 rfl rfl (ops_nil (thn_n (ret (thn_r (blk_r (thn_r (lp_r (blk_r ?_)))))))))
              refine thn_r ?_
              have hH408 := (hH234.sub (sC (sC (sC sR))))
              refine fin hH408 (fun w' hf => (res1 rfl (show RV _ _ _ (.tmp 6) _ from rfl))) (fun w' hf => ?_)
              first | rfl | exact hbad.elim
          ·skip
           refine cond_f rfl (dF hc55) ?_
           refine exit (thn_x (lp_x (blk_here (thn_n (seq (region ?_))))))
           refine op_fnV rfl rfl rfl hH54 (c18 (hG.now hH54 (n := 3) rfl)) (fun w409 hH410 => ?_)
           refine oA hH410 rfl rfl (ops_nil (thn_n (ret ?_)))
           have hH411 := (hH410.sub (sC (sC (sC sR))))
           refine fin hH411 (fun w' hf => (res1 rfl (show RV _ _ _ (.tmp 6) _ from rfl))) (fun w' hf => ?_)
           first | rfl | exact hbad.elim
  ·skip
   refine guard_no rfl rfl (not_decide_t hc12) rfl ?_
   refine guard_no rfl rfl (not_decide_t hc12) rfl ?_
   refine guard_no rfl rfl (not_decide_t hc12) rfl ?_
   refine guard_no rfl rfl (not_decide_t hc12) rfl ?_
   refine ops_y hH11 rfl rfl (yv_pick_t rfl (not_decide_t hc12) rfl) ?_
   refine oM hH11 rfl rfl (guard_no rfl rfl rfl rfl (guard_no rfl rfl rfl rfl (guard_no rfl rfl rfl rfl (guard_no rfl rfl rfl rfl (guard_no rfl rfl rfl rfl (guard_no rfl rfl rfl rfl (guard_no rfl rfl rfl rfl ?_)))))))
   refine ops_y hH11 rfl rfl (yv_pick_t rfl rfl rfl) ?_
   refine oM hH11 rfl rfl (guard_no rfl rfl rfl rfl (guard_no rfl rfl rfl rfl (guard_no rfl rfl rfl rfl ?_)))
   refine ops_y hH11 rfl rfl (yv_pick_t rfl rfl rfl) ?_
   refine ops_nil (thn_n ?_)
   refine cond_t rfl rfl ?_
   refine seq (region ?_)
   refine op_fnV rfl rfl rfl hH11 (c18 (hG.now hH11 (n := 2) rfl)) (fun w412 hH413 => ?_)
   refine oA hH413 rfl rfl (ops_nil (thn_n (ret (thn_r ?_))))
   have hH414 := (hH413.sub (sC (sC sR)))
   refine fin hH414 (fun w' hf => (res1 rfl (show RV _ _ _ (.tmp 6) _ from rfl))) (fun w' hf => ?_)
   first | rfl | exact hbad.elim
 ·skip
  refine guard_no rfl rfl (not_decide_t hc9) rfl ?_
  refine guard_no rfl rfl (not_decide_t hc9) rfl ?_
  refine guard_no rfl rfl (not_decide_t hc9) rfl ?_
  refine ops_y hH8 rfl rfl (yv_pick_t rfl (not_decide_t hc9) rfl) ?_
  refine oM hH8 rfl rfl (guard_no rfl rfl rfl rfl (guard_no rfl rfl rfl rfl (guard_no rfl rfl rfl rfl (guard_no rfl rfl rfl rfl ?_))))
  refine ops_y hH8 rfl rfl (yv_pick_t rfl rfl rfl) ?_
  refine oM hH8 rfl rfl (guard_no rfl rfl rfl rfl (guard_no rfl rfl rfl rfl (guard_no rfl rfl rfl rfl (guard_no rfl rfl rfl rfl (guard_no rfl rfl rfl rfl (guard_no rfl rfl rfl rfl (guard_no rfl rfl rfl rfl ?_)))))))
  refine ops_y hH8 rfl rfl (yv_pick_t rfl rfl rfl) ?_
  refine oM hH8 rfl rfl (guard_no rfl rfl rfl rfl (guard_no rfl rfl rfl rfl (guard_no rfl rfl rfl rfl ?_)))
  refine ops_y hH8 rfl rfl (yv_pick_t rfl rfl rfl) ?_
  refine ops_nil (thn_n ?_)
  refine cond_t rfl rfl ?_
  refine seq (region ?_)
  refine op_fnV rfl rfl rfl hH8 (c18 (hG.now hH8 (n := 2) rfl)) (fun w415 hH416 => ?_)
  refine oA hH416 rfl rfl (ops_nil (thn_n (ret (thn_r ?_))))
  have hH417 := (hH416.sub (sC (sC sR)))
  refine fin hH417 (fun w' hf => (res1 rfl (show RV _ _ _ (.tmp 6) _ from rfl))) (fun w' hf => ?_)
  first | rfl | exact hbad.elim
end Go.Fip
