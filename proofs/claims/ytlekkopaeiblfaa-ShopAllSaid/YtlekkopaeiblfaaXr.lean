/- Walks, by program (wip/tools). -/
import Derived.Test.YtlekkopaeiblfaaWq
import Derived.Test.YtlekkopaeiblfaaFy
import Derived.Test.YtlekkopaeiblfaaFz
import Derived.Test.YtlekkopaeiblfaaSj
set_option linter.unusedVariables false
set_option linter.unusedSimpArgs false
set_option linter.unusedSectionVars false
set_option linter.unnecessarySimpa false
namespace Go.Fip
open Go.Proofs Go.RowKit

theorem c41d {v : Value} {js : List S.Pr} {w : World} (h0 : Rd encP 2 v js w)  :
    Fn Try.prog 41 [v].toArray w (fun u _ => u = .bool (decide (S.Jobs js))) := by
 refine fn_of' (args := [v]) Try.func41 rfl (ent Try.func41 (by kernel_rfl) rfl) rfl rfl (fun hH => ?_)
 refine seq (region (ops_y hH rfl rfl (yv_assign rfl) (ops_nil (thn_n (seq (region (ops_y hH rfl rfl (yv_move rfl) ?_)))))))
 refine op_fnV rfl rfl rfl hH (c16 (h0.now hH (n := 0) rfl)) (fun w1 hH2 => ?_)
 refine ops_y hH2 rfl rfl (yv_not rfl) ?_
 refine ops_y hH2 rfl rfl (yv_move rfl) ?_
 by_cases hc3 : 12 < (js.length : Int)
 ·skip
  refine guard_no rfl rfl (not_decide_n hc3) rfl ?_
  refine guard_no rfl rfl (not_decide_n hc3) rfl ?_
  refine guard_no rfl rfl (not_decide_n hc3) rfl ?_
  refine ops_y hH2 rfl rfl (yv_pick_f rfl (not_decide_n hc3) rfl) ?_
  refine ops_y hH2 rfl rfl (yv_assign rfl) (ops_nil (thn_n (ret ?_)))
  refine fin hH2 (fun w' hf => (res1 rfl (show RV _ _ _ (.tmp 2) _ from rfl))) (fun w' hf => ?_)
  show Value.bool _ = Value.bool _; congr 1; rw [Bool.eq_iff_iff, decide_eq_true_eq (p := S.Jobs js), ← S.checkJobs_iff]; first | (simp; done) | (simp only [decide_eq_true_eq]; done) | (constructor <;> intro h <;> first | omega | (have := (S.checkJobs_iff.1 h).2.1; omega) | cases h)
 ·skip
  refine guard_yes rfl rfl (not_decide_t hc3) ?_
  refine ops_y hH2 rfl rfl (yv_move rfl) ?_
  refine guard_yes rfl rfl (not_decide_t hc3) ?_
  refine op_fnV rfl rfl rfl hH2 (c23 (h0.now hH2 (n := 0) rfl) (by omega)) (fun w4 hH5 => ?_)
  refine guard_yes rfl rfl (not_decide_t hc3) ?_
  refine ops_y hH5 rfl rfl (yv_eql rfl rfl) ?_
  refine ops_y hH5 rfl rfl (yv_pick_t rfl (not_decide_t hc3) rfl) ?_
  refine ops_y hH5 rfl rfl (yv_assign rfl) (ops_nil (thn_n (ret ?_)))
  refine fin hH5 (fun w' hf => (res1 rfl (show RV _ _ _ (.tmp 2) _ from rfl))) (fun w' hf => ?_)
  show Value.bool _ = Value.bool _; congr 1; rw [Bool.eq_iff_iff, decide_eq_true_eq (p := S.Jobs js), ← S.checkJobs_iff]; first | (simp; done) | (simp only [decide_eq_true_eq]; done) | (constructor <;> intro h <;> first | omega | (have := (S.checkJobs_iff.1 h).2.1; omega) | cases h)

theorem T.el67_encS : El Try.prog 67 39 1 encS := el_of (z := (.slice none 0 0)) (bytes := 24) (by kernel_rfl) (by kernel_rfl) rfl rfl rfl (fun _ => rfl) (by simp [encS, sv, Value.oneCell'])
namespace S
theorem all1 {P : Nat → Prop} (h0 : P 0) : ∀ i, i < 1 → P i := fun i hi => by rw [show i = 0 by omega]; exact h0
theorem all2 {P : Nat → Prop} (h0 : P 0) (h1 : P 1) : ∀ i, i < 2 → P i := fun i hi => by
  rcases (by omega : i = 0 ∨ i = 1) with rfl | rfl <;> assumption
theorem all6 {P : Nat → Prop} (h0 : P 0) (h1 : P 1) (h2 : P 2) (h3 : P 3) (h4 : P 4) (h5 : P 5) : ∀ i, i < 6 → P i := fun i hi => by
  rcases (by omega : i = 0 ∨ i = 1 ∨ i = 2 ∨ i = 3 ∨ i = 4 ∨ i = 5) with rfl | rfl | rfl | rfl | rfl | rfl <;> assumption
theorem shr_bd {b k : Nat} : 0 ≤ (b : Int) / 2 ^ k ∧ (b : Int) / 2 ^ k ≤ (b : Int) := by
  have e : (b : Int) / 2 ^ k = ((b / 2 ^ k : Nat) : Int) := by simp
  rw [e]
  have := Nat.div_le_self b (2 ^ k)
  generalize b / 2 ^ k = q at *
  omega
end S

set_option maxHeartbeats 8000000 in
theorem c10 {v : Value} {js : List S.Pr} {tr : Bool} {w : World} (h0 : Rd encP 2 v js w)  :
    Fn Try.prog 10 [v, (.bool tr)].toArray w (fun u _ => u = .bool true) := by
 refine fn_of' (args := [v, (.bool tr)]) Try.func10 rfl (ent Try.func10 (by kernel_rfl) rfl) rfl rfl (fun hH => ?_)
 refine seq (region (ops_y hH rfl rfl (yv_assign rfl) (ops_nil (thn_n (seq (seq ?_))))))
 by_cases hc1 : S.Jobs js
 ·skip
  have hj : S.Jobs js := ‹_›
  have hl1 := hj.1
  have hl8 := hj.2.1
  have hc0 := S.checkJobs_iff.2 hj
  refine region (ops_y hH rfl rfl (yv_move rfl) ?_)
  refine op_fnV rfl rfl rfl hH (c41d (h0.now hH (n := 0) rfl)) (fun w2 hH3 => ?_)
  refine ops_y hH3 rfl rfl (yv_castB (bnot_f (decide_eq_true hc1)) (yv_not rfl)) ?_
  refine ops_nil (thn_n ?_)
  refine cond_f rfl rfl ?_
  refine skip (thn_n (seq (region (ops_y hH3 rfl rfl (yv_move rfl) (ops_y hH3 rfl rfl (yv_move rfl) ?_)))))
  refine ops_y hH3 rfl rfl (yv_len T.sl22 rfl (h0.now hH3 (n := 0) rfl).is) ?_
  refine ops_y hH3 rfl rfl (yv_min rfl rfl) ?_
  refine ops_y hH3 rfl rfl (yv_cut_hi T.sl22 rfl rfl (h0.now hH3 (n := 0) rfl).is (by omega)) ?_
  refine ops_y hH3 rfl rfl (yv_assign rfl) (ops_nil (thn_n (seq (seq (region (ops_y hH3 rfl rfl (yv_move rfl) (ops_nil (thn_n ?_))))))))
  by_cases hc4 : tr = true
  ·skip
   have h3t : tr = true := ‹_›
   refine cond_t rfl hc4 ?_
   refine region (ops_y hH3 rfl rfl (yv_move rfl) (ops_y hH3 rfl rfl (yv_move rfl) ?_))
   refine ops_y hH3 rfl rfl (yv_len T.sl22 rfl (h0.now hH3 (n := 0) rfl).is) ?_
   refine ops_y hH3 rfl rfl (yv_min rfl rfl) ?_
   refine ops_y hH3 rfl rfl (yv_cut_hi T.sl22 rfl rfl (h0.now hH3 (n := 0) rfl).is (by omega)) ?_
   refine ops_y hH3 rfl rfl (yv_assign rfl) (ops_nil (thn_n (seq ?_)))
   have hxl : (js.take (min (js.length : Int) 3).toNat).length = (min (js.length : Int) 3).toNat := by rw [List.length_take]; omega
   have hjt : S.Jobs (js.take (min (js.length : Int) 3).toNat) := S.jobs_take hj (by omega) (by omega)
   refine region (ops_y hH3 rfl rfl (yv_move rfl) ?_)
   refine op_fn rfl rfl rfl hH3 (c42 (Rd.upto (h0.now hH3 (n := 0) rfl) (hi := (min (js.length : Int) 3).toNat) (by omega)) hjt) (fun u7 w5 lo8 hi9 hH6 hv10 => ?_)
   obtain ⟨q11, p12, hu, ho14, hp15⟩ := hv10
   subst hu
   have hH13 := Heap.toOwAny hH6 (n := 0) rfl (fun w' h => by obtain ⟨_, ys, e, h, _⟩ := h; cases e; exact ⟨ys, h⟩) ho14
   refine ops_y hH13 rfl rfl (yv_move rfl) (ops_y hH13 rfl rfl (yv_extract rfl rfl) (ops_y hH13 rfl rfl (yv_extract rfl rfl) (ops_y hH13 rfl rfl (yv_extract rfl rfl) (ops_y hH13 rfl rfl (yv_assign rfl) (ops_y hH13 rfl rfl (yv_assign rfl) (ops_y hH13 rfl rfl (yv_assign rfl) (ops_nil (thn_n (seq ?_)))))))))
   refine seq (region (ops_y hH13 rfl rfl (yv_move rfl) ?_))
   refine ops_y hH13 rfl rfl (yv_not rfl) ?_
   refine ops_nil (thn_n ?_)
   refine cond_f rfl rfl ?_
   refine skip (thn_n (seq (region ?_)))
   refine op_lit (us := [(0, (.int .i64 0))]) T.el39_encI [0] rfl (by decide) rfl (fun a ha => by simp [ha.ev (show ev _ (.const (.int .i64 0)) = some _ from rfl)]) (fun w => by kernel_rfl) hH13 (fun u16 lo18 hi19 w17 hH20 => ?_)
   refine op_fnV rfl rfl rfl hH20 (c50) (fun w21 hH22 => ?_)
   obtain ⟨s23, hs24⟩ := Heap.sv hH22 (n := 0) rfl (by simp)
   refine op_lit (us := [(0, u16)]) T.el67_encS [s23] rfl (by decide) rfl (fun a ha => by simp [ha.ev (show ev _ (.tmp 44) = some _ from rfl)]) (fun w => by rw [hs24]; kernel_rfl) hH22 (fun u25 lo27 hi28 w26 hH29 => ?_)
   refine ops_y hH29 rfl rfl (yv_assign rfl) (ops_nil (thn_n (seq (seq (region (ops_y hH29 rfl rfl (yv_move rfl) ?_))))))
   refine ops_y hH29 rfl rfl (yv_len T.sl22 rfl (Rd.upto (h0.now hH29 (n := 3) rfl) (hi := (min (js.length : Int) 3).toNat) (by omega)).is) ?_
   refine ops_y hH29 rfl rfl (yv_eql rfl rfl) ?_
   refine ops_nil (thn_n ?_)
   by_cases hc30 : ((js.take (min (js.length : Int) 3).toNat).length : Int) = 2
   ·skip
    have hx2 : (js.take (min (js.length : Int) 3).toNat).length = 2 := by omega
    refine cond_t rfl (decide_eq_true hc30) ?_
    refine region ?_
    refine op_lit (us := [(0, (.int .i64 0)), (1, (.int .i64 1))]) T.el39_encI [0, 1] rfl (by decide) rfl (fun a ha => by simp [ha.ev (show ev _ (.const (.int .i64 0)) = some _ from rfl), ha.ev (show ev _ (.const (.int .i64 1)) = some _ from rfl)]) (fun w => by kernel_rfl) hH29 (fun u31 lo33 hi34 w32 hH35 => ?_)
    refine op_fnV rfl rfl rfl hH35 (c50) (fun w36 hH37 => ?_)
    refine op_lit (us := [(0, (.int .i64 1)), (1, (.int .i64 0))]) T.el39_encI [1, 0] rfl (by decide) rfl (fun a ha => by simp [ha.ev (show ev _ (.const (.int .i64 1)) = some _ from rfl), ha.ev (show ev _ (.const (.int .i64 0)) = some _ from rfl)]) (fun w => by kernel_rfl) hH37 (fun u38 lo40 hi41 w39 hH42 => ?_)
    refine op_fnV rfl rfl rfl hH42 (c50) (fun w43 hH44 => ?_)
    obtain ⟨s45, hs46⟩ := Heap.sv hH44 (n := 1) rfl (by simp)
    obtain ⟨s47, hs48⟩ := Heap.sv hH44 (n := 0) rfl (by simp)
    refine op_lit (us := [(0, u31), (1, u38)]) T.el67_encS [s45, s47] rfl (by decide) rfl (fun a ha => by simp [ha.ev (show ev _ (.tmp 50) = some _ from rfl), ha.ev (show ev _ (.tmp 52) = some _ from rfl)]) (fun w => by rw [hs46, hs48]; kernel_rfl) hH44 (fun u49 lo51 hi52 w50 hH53 => ?_)
    refine ops_y hH53 rfl rfl (yv_assign rfl) (ops_nil (thn_n (seq (seq (region (ops_y hH53 rfl rfl (yv_move rfl) ?_))))))
    refine ops_y hH53 rfl rfl (yv_len T.sl22 rfl (Rd.upto (h0.now hH53 (n := 6) rfl) (hi := (min (js.length : Int) 3).toNat) (by omega)).is) ?_
    refine ops_y hH53 rfl rfl (yv_eql rfl rfl) ?_
    refine ops_nil (thn_n ?_)
    have hc54 : ¬ (((js.take (min (js.length : Int) 3).toNat).length : Int) = 3) := by omega
    refine cond_f rfl (decide_eq_false hc54) ?_
    refine skip (thn_n ?_)
    refine cut (S := World × List S.Pr × Value × Value × List (Nat × Nat × Nat) × List (List Int)) (fun (w0, xs, v5, v9, TT, RR) => [(5, v5), (6, (.int .i64 (S.shortestOf xs))), (9, v9), (10, (.bool false)), (4, (.bool false))]) (fun (w0, xs, v5, v9, TT, RR) w1 => Heap [base w0] w1 ∧ Below w.heap.size w w0 ∧ Rd encP 2 v5 xs w0 ∧ S.Jobs xs ∧ S.RowsOf xs.length RR ∧ Rd encS 1 v9 TT w0 ∧ TT.length = RR.length ∧ ∀ i : Nat, i < TT.length → Rd encI 1 (sv (nth TT (i : Int))) (nth RR (i : Int)) w0) ?_ ?_
    ·skip
     refine region (ops_y hH53 rfl rfl (yv_assign rfl) (ops_nil ?_))
     refine mid_n (w50, (js.take (min (js.length : Int) 3).toNat), (cutv v 2 0 (min (js.length : Int) 3).toNat), u49, [s45, s47], [[0, 1], [1, 0]]) (Sub.cons rfl (Sub.cons rfl (Sub.cons rfl (Sub.cons rfl (Sub.cons rfl (Sub.nil _)))))) ?_
     exact ⟨Heap.start w50, hH53.get (n := 6) rfl, (Rd.upto (h0.now hH53 (n := 6) rfl) (hi := (min (js.length : Int) 3).toNat) (by omega)), hjt, (by rw [show (js.take (min (js.length : Int) 3).toNat).length = 2 by omega]; exact S.rows2), (Heap.rdw T.el67_encS hH53 (n := 0) rfl), rfl, S.all2 (by show Rd encI 1 (sv s45) [0, 1] _; rw [← hs46]; exact Heap.rdw T.el39_encI hH53 (n := 2) rfl) (by show Rd encI 1 (sv s47) [1, 0] _; rw [← hs48]; exact Heap.rdw T.el39_encI hH53 (n := 1) rfl)⟩
    ·rintro ⟨w0, xs, v5, v9, TT, RR⟩ w55 ⟨hH56, hbw, h5, hjx, hRR, h9, hTl, hel⟩
     show Holds _ _ _ _ _ [(5, v5), (6, (.int .i64 (S.shortestOf xs))), (9, v9), (10, (.bool false)), (4, (.bool false))] _ _
     refine seq (seq ?_)
     obtain ⟨ti, tk, tb, hti, htk, htb, pt, hpt, hpe⟩ := S.target hjx hRR
     have hx1 := hjx.1
     have hx3 := hRR.1
     have hR6 := hRR.2.1
     have hpw := S.pw_le xs.length
     refine region (ops_y hH56 rfl rfl (yv_assign rfl) (ops_nil (thn_n (block ?_))))
     refine loop (S := Nat × Bool) (fun (i1, ff) => [(11, (.int .i64 (i1 : Int))), (10, (.bool ff)), (5, v5), (6, (.int .i64 (S.shortestOf xs))), (9, v9)]) (fun (i1, ff) w1 => Heap [base w0] w1 ∧ i1 ≤ RR.length ∧ (ti < i1 → ff = true)) (fun (i1, ff) => RR.length - i1) (0, false) (Sub.cons rfl (Sub.cons rfl (Sub.cons rfl (Sub.cons rfl (Sub.cons rfl (Sub.nil _)))))) ?_ ?_
     ·exact ⟨hH56, by omega, fun h => by omega⟩
     ·rintro ⟨i1, ff⟩ w57 ⟨hH58, hi1, hf1⟩
      show Holds _ _ _ _ _ [(11, (.int .i64 (i1 : Int))), (10, (.bool ff)), (5, v5), (6, (.int .i64 (S.shortestOf xs))), (9, v9)] _ _
      refine seq (seq (region (ops_y hH58 rfl rfl (yv_move rfl) (ops_y hH58 rfl rfl (yv_move rfl) ?_))))
      refine ops_y hH58 rfl rfl (yv_len T.sl67 rfl (h9.now hH58 (n := 0) rfl).is) ?_
      refine ops_y hH58 rfl rfl (yv_lss rfl rfl) ?_
      refine ops_nil (thn_n ?_)
      by_cases hc59 : (i1 : Int) < (TT.length : Int)
      ·skip
       refine cond_t rfl (decide_eq_true hc59) ?_
       refine skip (thn_n (seq (block (seq (region (ops_y hH58 rfl rfl (yv_assign rfl) (ops_nil (thn_n (block ?_)))))))))
       refine loop (S := Nat × Bool) (fun (k1, ff2) => [(12, (.int .i64 (k1 : Int))), (10, (.bool ff2)), (5, v5), (6, (.int .i64 (S.shortestOf xs))), (9, v9), (11, (.int .i64 (i1 : Int)))]) (fun (k1, ff2) w1 => Heap [base w0] w1 ∧ k1 ≤ RR.length ∧ (ti < i1 ∨ (ti = i1 ∧ tk < k1) → ff2 = true)) (fun (k1, ff2) => RR.length - k1) (0, ff) (Sub.cons rfl (Sub.cons rfl (Sub.cons rfl (Sub.cons rfl (Sub.cons rfl (Sub.cons rfl (Sub.nil _))))))) ?_ ?_
       ·exact ⟨hH58, by omega, fun h => hf1 (by omega)⟩
       ·rintro ⟨k1, ff2⟩ w60 ⟨hH61, hk1, hf2⟩
        show Holds _ _ _ _ _ [(12, (.int .i64 (k1 : Int))), (10, (.bool ff2)), (5, v5), (6, (.int .i64 (S.shortestOf xs))), (9, v9), (11, (.int .i64 (i1 : Int)))] _ _
        refine seq (seq (region (ops_y hH61 rfl rfl (yv_move rfl) (ops_y hH61 rfl rfl (yv_move rfl) ?_))))
        refine ops_y hH61 rfl rfl (yv_len T.sl67 rfl (h9.now hH61 (n := 0) rfl).is) ?_
        refine ops_y hH61 rfl rfl (yv_lss rfl rfl) ?_
        refine ops_nil (thn_n ?_)
        by_cases hc62 : (k1 : Int) < (TT.length : Int)
        ·skip
         refine cond_t rfl (decide_eq_true hc62) ?_
         refine skip (thn_n (seq (block (seq (region (ops_y hH61 rfl rfl (yv_assign rfl) (ops_nil (thn_n (block ?_)))))))))
         refine loop (S := Nat × Bool) (fun (b1, ff3) => [(13, (.int .i64 (b1 : Int))), (10, (.bool ff3)), (5, v5), (6, (.int .i64 (S.shortestOf xs))), (9, v9), (11, (.int .i64 (i1 : Int))), (12, (.int .i64 (k1 : Int)))]) (fun (b1, ff3) w1 => Heap [base w0] w1 ∧ b1 ≤ S.pw xs.length ∧ ((ti < i1 ∨ (ti = i1 ∧ tk < k1)) ∨ (ti = i1 ∧ tk = k1 ∧ tb < b1) → ff3 = true)) (fun (b1, ff3) => S.pw xs.length - b1) (0, ff2) (Sub.cons rfl (Sub.cons rfl (Sub.cons rfl (Sub.cons rfl (Sub.cons rfl (Sub.cons rfl (Sub.cons rfl (Sub.nil _)))))))) ?_ ?_
         ·exact ⟨hH61, by omega, fun h => hf2 (by omega)⟩
         ·rintro ⟨b1, ff3⟩ w63 ⟨hH64, hb1, hf3⟩
          show Holds _ _ _ _ _ [(13, (.int .i64 (b1 : Int))), (10, (.bool ff3)), (5, v5), (6, (.int .i64 (S.shortestOf xs))), (9, v9), (11, (.int .i64 (i1 : Int))), (12, (.int .i64 (k1 : Int)))] _ _
          refine seq (seq (region (ops_y hH64 rfl rfl (yv_move rfl) (ops_y hH64 rfl rfl (yv_move rfl) ?_))))
          refine ops_y hH64 rfl rfl (yv_len T.sl22 rfl (h5.now hH64 (n := 0) rfl).is) ?_
          refine ops_y hH64 rfl rfl (yv_shl1 rfl rfl (by omega) (S.pw_shl (n := xs.length) hx3)) ?_
          refine ops_y hH64 rfl rfl (yv_lss rfl rfl) ?_
          refine ops_nil (thn_n ?_)
          by_cases hc65 : (b1 : Int) < (S.pw xs.length : Int)
          ·skip
           refine cond_t rfl (decide_eq_true hc65) ?_
           refine skip (thn_n (seq (block (seq ?_))))
           refine region_drawY (fun w' => Heap [base w0] w') [] T.mixed (fun w66 hr67 => ?_)
           have hH68 := hH64.redrawn hr67
           refine any_takesT [0, 1, 2, 4, 5, 6] (by kernel_rfl)  _ _ _ (by kernel_rfl) ?_
           refine qs_y rfl rfl (yv_move rfl) (qs_y rfl rfl (yv_move rfl) ?_)
           refine qs_y rfl rfl (yv_index T.sl67 rfl rfl (h9.now hH68 (n := 0) rfl).is (by omega)) ?_
           refine qs_y rfl rfl (yv_move rfl) (qs_y rfl rfl (yv_move rfl) ?_)
           refine qs_y rfl rfl (yv_index T.sl67 rfl rfl (h9.now hH68 (n := 0) rfl).is (by omega)) ?_
           refine qs_nil ?_
           refine any_takesY [3, 7] (by kernel_rfl) hH68 _ _ _ (by kernel_rfl) ?_
           refine qs_y rfl rfl (yv_load T.one39 rfl (fun _ hw => Rd.at (h9.now hw (n := 0) rfl) (i := (i1 : Int)) (by omega) (j := 0) rfl)) ?_
           refine qs_y rfl rfl (yv_load T.one39 rfl (fun _ hw => Rd.at (h9.now hw (n := 0) rfl) (i := (k1 : Int)) (by omega) (j := 0) rfl)) ?_
           refine qs_nil ?_
           obtain ⟨_, _, hb69, _⟩ := ((hel i1 (by omega)).now hH68 (n := 0) rfl).is
           obtain ⟨_, _, hb70, _⟩ := ((hel k1 (by omega)).now hH68 (n := 0) rfl).is
           refine any_takesT [8] (by kernel_rfl)  _ _ _ (by kernel_rfl) ?_
           refine qs_y rfl rfl (yv_build (v := (.agg #[(sv (nth TT (i1 : Int))), (sv (nth TT (k1 : Int))), (.slice none 0 0)])) (us := [(0, (sv (nth TT (i1 : Int)))), (1, (sv (nth TT (k1 : Int))))]) (fun a ha => by simp [ha.ev (show ev _ (.tmp 92) = some _ from rfl), ha.ev (show ev _ (.tmp 96) = some _ from rfl)]) (fun w => by rw [hb69, hb70]; kernel_rfl)) ?_
           refine qs_nil ?_
           refine any_allY [9] (by kernel_rfl) rfl ?_
           refine ⟨⟨_, rfl, ?_⟩, trivial⟩
           ·skip
            refine op_alloc (z := (.agg #[(.slice none 0 0), (.slice none 0 0), (.slice none 0 0)])) (us := [(.slice none 0 0), (.slice none 0 0), (.slice none 0 0)]) (fun _ => by kernel_rfl) rfl rfl hH68 (fun b71 w72 hH73 => ?_)
            refine ops_nil ?_
            refine ⟨fun _ _ => (hH73.sub (List.Sublist.cons _ (List.Sublist.refl _))), ?_⟩
            refine any_allY [10] (by kernel_rfl) rfl ?_
            refine ⟨⟨_, rfl, ?_⟩, trivial⟩
            ·skip
             refine op_store (n := 0) (j := 0) (us := [(sv (nth TT (i1 : Int))), (sv (nth TT (k1 : Int))), (.slice none 0 0)]) rfl rfl hH73 rfl T.sz41 rfl rfl rfl (all_one (SliceIs.one1 ((hel i1 (by omega)).now hH73 (n := 1) rfl).is) (all_one (SliceIs.one1 ((hel k1 (by omega)).now hH73 (n := 1) rfl).is) (all_one rfl rfl))) (fun w74 hH75 => ?_)
             refine ops_nil ?_
             refine ⟨fun _ _ => (hH75.sub (List.Sublist.cons _ (List.Sublist.refl _))), ?_⟩
             refine any_doneY (by kernel_rfl) ?_
             refine thn_n (seq (seq (region (ops_y hH75 rfl rfl (yv_assign rfl) (ops_nil (thn_n (block ?_)))))))
             have hH76 := ow_nil (enc := encI) 3 1 hH75
             refine loop (S := Nat × Value × Nat × Nat) (fun (j1, v_b14, lo_b14, hi_b14) => [(15, (.int .i64 (j1 : Int))), (5, v5), (6, (.int .i64 (S.shortestOf xs))), (9, v9), (10, (.bool ff3)), (11, (.int .i64 (i1 : Int))), (12, (.int .i64 (k1 : Int))), (13, (.int .i64 (b1 : Int))), (14, (.pointer (some ⟨b71, 0, none⟩)))]) (fun (j1, v_b14, lo_b14, hi_b14) w1 => Heap [ow lo_b14 hi_b14 3 1 encI v_b14 (S.bitsTo (b1 : Int) j1), bx b71 41 [(sv (nth TT (i1 : Int))), (sv (nth TT (k1 : Int))), v_b14], base w0] w1 ∧ j1 ≤ xs.length) (fun (j1, v_b14, lo_b14, hi_b14) => xs.length - j1) (0, (.slice none 0 0), w74.heap.size, w74.heap.size) (Sub.cons rfl (Sub.cons rfl (Sub.cons rfl (Sub.cons rfl (Sub.cons rfl (Sub.cons rfl (Sub.cons rfl (Sub.cons rfl (Sub.cons rfl (Sub.nil _)))))))))) ?_ ?_
             ·exact ⟨hH76, by omega⟩
             ·rintro ⟨j1, v_b14, lo_b14, hi_b14⟩ w77 ⟨hH78, hj1⟩
              show Holds _ _ _ _ _ [(15, (.int .i64 (j1 : Int))), (5, v5), (6, (.int .i64 (S.shortestOf xs))), (9, v9), (10, (.bool ff3)), (11, (.int .i64 (i1 : Int))), (12, (.int .i64 (k1 : Int))), (13, (.int .i64 (b1 : Int))), (14, (.pointer (some ⟨b71, 0, none⟩)))] _ _
              refine seq (seq (region (ops_y hH78 rfl rfl (yv_move rfl) (ops_y hH78 rfl rfl (yv_move rfl) ?_))))
              refine ops_y hH78 rfl rfl (yv_len T.sl22 rfl (h5.now hH78 (n := 2) rfl).is) ?_
              refine ops_y hH78 rfl rfl (yv_lss rfl rfl) ?_
              refine ops_nil (thn_n ?_)
              by_cases hc79 : (j1 : Int) < (xs.length : Int)
              ·skip
               refine cond_t rfl (decide_eq_true hc79) ?_
               refine skip (thn_n (seq (block ?_)))
               have hq := S.shr_bd (b := b1) (k := (j1 : Int).toNat)
               have hlb := S.bitsTo_length (b1 : Int) j1
               refine region_drawY (fun w' => Heap [bx b71 41 [(sv (nth TT (i1 : Int))), (sv (nth TT (k1 : Int))), v_b14], base w0] w') [9] T.mixed (fun w80 hr81 => ?_)
               have hH82 := hH78.redrawn hr81
               refine any_takesT [0, 2, 3, 4, 5] (by kernel_rfl)  _ _ _ (by kernel_rfl) ?_
               refine qs_y rfl rfl (yv_field T.f41_2 rfl) ?_
               refine qs_y rfl rfl (yv_move rfl) (qs_y rfl rfl (yv_move rfl) ?_)
               refine qs_y rfl rfl (yv_shr rfl rfl (by omega)) ?_
               refine qs_y rfl rfl (yv_and1 rfl rfl hq.1 (by omega)) ?_
               refine qs_nil ?_
               refine any_takesY [1] (by kernel_rfl) (hH82.sub (List.Sublist.cons _ (List.Sublist.refl _))) _ _ _ (by kernel_rfl) ?_
               refine qs_y rfl rfl (yv_load T.one39 rfl (fun _ hw => Heap.cellw hw (n := 0) rfl rfl)) ?_
               refine qs_nil ?_
               refine any_allY [6] (by kernel_rfl) rfl ?_
               refine ⟨⟨_, rfl, ?_⟩, trivial⟩
               ·skip
                refine op_lit (us := [(0, (.int .i64 ((b1 : Int) / 2 ^ (j1 : Int).toNat % 2)))]) T.el39_encI [(b1 : Int) / 2 ^ (j1 : Int).toNat % 2] rfl (by decide) rfl (fun a ha => by simp [ha.ev (show ev _ (.tmp 109) = some _ from rfl)]) (fun w => by kernel_rfl) hH82 (fun u83 lo85 hi86 w84 hH87 => ?_)
                refine ops_nil ?_
                refine ⟨fun _ _ => (hH87.sub (List.Sublist.cons _ (List.Sublist.cons _ (List.Sublist.refl _)))), ?_⟩
                refine any_allY [7] (by kernel_rfl) rfl ?_
                refine ⟨⟨_, rfl, ?_⟩, trivial⟩
                ·skip
                 refine op_append (n := 1) T.el39_encI rfl rfl rfl hH87 rfl (Heap.rdw T.el39_encI hH87 (n := 0) rfl) (by first | omega | (simp only [List.length_append, List.length_cons, List.length_nil]; omega)) (fun u88 lo90 hi91 w89 hH92 => ?_)
                 refine ops_nil ?_
                 refine ⟨fun _ _ => (hH92.sub (List.Sublist.cons _ (List.Sublist.cons _ (List.Sublist.refl _)))), ?_⟩
                 refine any_takesT [8] (by kernel_rfl)  _ _ _ (by kernel_rfl) ?_
                 refine qs_y rfl rfl (yv_field T.f41_2 rfl) ?_
                 refine qs_nil ?_
                 refine any_allY [9] (by kernel_rfl) rfl ?_
                 refine ⟨⟨_, rfl, ?_⟩, trivial⟩
                 ·skip
                  refine op_store (n := 2) (j := 2) (us := [u88]) rfl rfl hH92 rfl T.sz39 (SliceIs.cells (Heap.rdw T.el39_encI hH92 (n := 1) rfl).is) rfl rfl (SliceIs.one (Heap.rdw T.el39_encI hH92 (n := 1) rfl).is) (fun w93 hH94 => ?_)
                  refine ops_nil ?_
                  refine ⟨(fun h => by cases h), ?_⟩
                  refine any_doneY (by kernel_rfl) ?_
                  refine blk_n (thn_n (region (ops_y hH94 rfl rfl (yv_move rfl) ?_)))
                  refine ops_y hH94 rfl rfl (yv_add rfl rfl (by omega)) ?_
                  refine ops_y hH94 rfl rfl (yv_assign rfl) (ops_nil ?_)
                  have hH95 := (hH94.sub (List.Sublist.cons _ (List.Sublist.refl _)))
                  refine lp_n (j1 + 1, u88, lo90, hi91) (Sub.cons rfl (Sub.cons rfl (Sub.cons rfl (Sub.cons rfl (Sub.cons rfl (Sub.cons rfl (Sub.cons rfl (Sub.cons rfl (Sub.cons rfl (Sub.nil _)))))))))) ?_ ?_
                  ·exact ⟨(Heap.recast (n := 0) hH95 rfl (rfl)), by omega⟩
                  ·first | (dsimp only; omega) | (show _ < _; omega)
              ·skip
               refine cond_f rfl (decide_eq_false hc79) ?_
               refine exit (thn_x (lp_x (blk_here (thn_n (seq ?_)))))
               by_cases hc96 : ∃ p, S.SolP xs (nth RR (i1 : Int)) (nth RR (k1 : Int)) (S.bitsTo (b1 : Int) xs.length) p
               ·skip
                have hO := S.rows_ord hRR (i := i1) (k := k1) (by omega) (by omega) (b1 : Int)
                have hco := S.checkOrder_iff.2 ⟨hjx, hO⟩
                have hlo1 : (nth RR (i1 : Int)).length = xs.length := hO.1
                have hlo2 : (nth RR (k1 : Int)).length = xs.length := hO.2.1
                have hlo3 := S.bitsTo_length (b1 : Int) xs.length
                obtain ⟨p, hs⟩ := ‹∃ p, S.SolP xs (nth RR (i1 : Int)) (nth RR (k1 : Int)) (S.bitsTo (b1 : Int) xs.length) p›
                have hpyy := (S.play_yes hjx hco hs).1
                have hck := hs.check hjx hO
                have hse := S.shortest_le_end hjx (hs.allT hjx) hs.1 (hs.right hjx hO)
                have hpn := hs.1
                have heq : (ti = i1 ∧ tk = k1 ∧ tb = b1) → S.endOf xs p = S.shortestOf xs := fun ⟨a, b, c⟩ => by subst a b c; rw [S.sol_same hjx hs hpt]; exact hpe
                have hj2 : j1 = xs.length := by omega
                have hH97 := Heap.recast (n := 0) hH78 rfl (show _ = (S.bitsTo (b1 : Int) xs.length) from by rw [hj2])
                refine region (ops_y hH97 rfl rfl (yv_move rfl) ?_)
                refine ops_y hH97 rfl rfl (yv_loadA (cs := [(sv (nth TT (i1 : Int))), (sv (nth TT (k1 : Int))), v_b14]) T.agg41 rfl rfl (fun _ hw => Heap.cellsw hw (n := 1) rfl (k := 0) rfl)) ?_
                have hev100 : Fn Try.prog 32 [v5, (.agg #[(sv (nth TT (i1 : Int))), (sv (nth TT (k1 : Int))), v_b14])].toArray _ _ := c32 (h5.now hH97 (n := 2) rfl) ((hel i1 (by omega)).now hH97 (n := 2) rfl) ((hel k1 (by omega)).now hH97 (n := 2) rfl) (Heap.rdw T.el39_encI hH97 (n := 0) rfl) (by omega) (by omega) (by omega) (by omega)
                simp only [hpyy] at hev100
                refine op_fn rfl rfl rfl hH97 (hev100) (fun u101 w98 lo102 hi103 hH99 hv104 => ?_)
                obtain ⟨p106, hu, -⟩ := hv104
                subst hu
                have hH105 := Heap.tup2 hH99 (n := 0) rfl
                refine ops_y hH105 rfl rfl (yv_move rfl) (ops_y hH105 rfl rfl (yv_extract rfl rfl) (ops_y hH105 rfl rfl (yv_extract rfl rfl) (ops_y hH105 rfl rfl (yv_assign rfl) (ops_y hH105 rfl rfl (yv_assign rfl) (ops_nil (thn_n (seq (seq (region ?_)))))))))
                refine ops_y hH105 rfl rfl (yv_move rfl) ?_
                refine ops_y hH105 rfl rfl (yv_castB rfl (yv_eql rfl rfl)) ?_
                refine ops_nil (thn_n ?_)
                refine cond_f rfl rfl ?_
                refine skip (thn_n (seq (region (ops_y hH105 rfl rfl (yv_move rfl) (ops_y hH105 rfl rfl (yv_move rfl) ?_)))))
                have hev109 : Fn Try.prog 19 [v5, p106].toArray _ _ := c19 (h5.now hH105 (n := 3) rfl) (Heap.rdw T.el23_encP hH105 (n := 0) rfl) (by omega) (by omega)
                simp only [hck] at hev109
                refine op_fnV rfl rfl rfl hH105 (hev109) (fun w107 hH108 => ?_)
                refine ops_y hH108 rfl rfl (yv_move rfl) (ops_y hH108 rfl rfl (yv_extract rfl rfl) (ops_y hH108 rfl rfl (yv_extract rfl rfl) (ops_y hH108 rfl rfl (yv_assign rfl) (ops_y hH108 rfl rfl (yv_assign rfl) (ops_nil (thn_n (seq (seq (region ?_)))))))))
                refine ops_y hH108 rfl rfl (yv_move rfl) ?_
                refine ops_y hH108 rfl rfl (yv_castB rfl (yv_neq rfl rfl)) ?_
                refine ops_y hH108 rfl rfl (yv_move rfl) (guard_yes rfl rfl rfl (ops_y hH108 rfl rfl (yv_move rfl) (guard_yes rfl rfl rfl ?_)))
                refine ops_y hH108 rfl rfl (yv_castB rfl (yv_neq rfl rfl)) ?_
                refine ops_y hH108 rfl rfl (yv_pick_f rfl rfl rfl) ?_
                refine ops_y hH108 rfl rfl (yv_move rfl) (guard_yes rfl rfl rfl (ops_y hH108 rfl rfl (yv_move rfl) (guard_yes rfl rfl rfl (ops_y hH108 rfl rfl (yv_move rfl) (guard_yes rfl rfl rfl ?_)))))
                refine ops_y hH108 rfl rfl (yv_lss rfl rfl) ?_
                refine ops_y hH108 rfl rfl (yv_pick_f rfl rfl rfl) ?_
                refine ops_nil (thn_n ?_)
                have hc110 : ¬ ((S.endOf xs p) < (S.shortestOf xs)) := by omega
                refine cond_f rfl (decide_eq_false hc110) ?_
                refine skip (thn_n (region (ops_y hH108 rfl rfl (yv_move rfl) (ops_y hH108 rfl rfl (yv_move rfl) ?_))))
                by_cases hc111 : ff3 = true
                ·skip
                 refine guard_no rfl rfl hc111 rfl ?_
                 refine guard_no rfl rfl hc111 rfl ?_
                 refine guard_no rfl rfl hc111 rfl ?_
                 refine ops_y hH108 rfl rfl (yv_pick_t rfl hc111 rfl) ?_
                 refine ops_y hH108 rfl rfl (yv_assign rfl) (ops_nil (blk_n (thn_n (region (ops_y hH108 rfl rfl (yv_move rfl) ?_)))))
                 refine ops_y hH108 rfl rfl (yv_add rfl rfl (by omega)) ?_
                 refine ops_y hH108 rfl rfl (yv_assign rfl) (ops_nil ?_)
                 have hH112 := (hH108.sub (List.Sublist.cons _ (List.Sublist.cons _ (List.Sublist.cons _ (List.Sublist.refl _)))))
                 refine lp_n (b1 + 1, true) (Sub.cons rfl (Sub.cons rfl (Sub.cons rfl (Sub.cons rfl (Sub.cons rfl (Sub.cons rfl (Sub.cons rfl (Sub.nil _)))))))) ?_ ?_
                 ·exact ⟨hH112, by omega, fun _ => rfl⟩
                 ·first | (dsimp only; omega) | (show _ < _; omega)
                ·skip
                 refine guard_yes rfl rfl (Bool.eq_false_iff.2 hc111) ?_
                 refine ops_y hH108 rfl rfl (yv_move rfl) ?_
                 refine guard_yes rfl rfl (Bool.eq_false_iff.2 hc111) ?_
                 refine ops_y hH108 rfl rfl (yv_move rfl) ?_
                 refine guard_yes rfl rfl (Bool.eq_false_iff.2 hc111) ?_
                 refine ops_y hH108 rfl rfl (yv_eql rfl rfl) ?_
                 refine ops_y hH108 rfl rfl (yv_pick_f rfl (Bool.eq_false_iff.2 hc111) rfl) ?_
                 refine ops_y hH108 rfl rfl (yv_assign rfl) (ops_nil (blk_n (thn_n (region (ops_y hH108 rfl rfl (yv_move rfl) ?_)))))
                 refine ops_y hH108 rfl rfl (yv_add rfl rfl (by omega)) ?_
                 refine ops_y hH108 rfl rfl (yv_assign rfl) (ops_nil ?_)
                 have hH113 := (hH108.sub (List.Sublist.cons _ (List.Sublist.cons _ (List.Sublist.cons _ (List.Sublist.refl _)))))
                 refine lp_n (b1 + 1, decide ((S.endOf xs p) = (S.shortestOf xs))) (Sub.cons rfl (Sub.cons rfl (Sub.cons rfl (Sub.cons rfl (Sub.cons rfl (Sub.cons rfl (Sub.cons rfl (Sub.nil _)))))))) ?_ ?_
                 ·exact ⟨hH113, by omega, fun h => decide_eq_true (heq (Classical.byContradiction fun hc => absurd (hf3 (by omega)) ‹¬ ff3 = true›))⟩
                 ·first | (dsimp only; omega) | (show _ < _; omega)
               ·skip
                have hO := S.rows_ord hRR (i := i1) (k := k1) (by omega) (by omega) (b1 : Int)
                have hco := S.checkOrder_iff.2 ⟨hjx, hO⟩
                have hlo1 : (nth RR (i1 : Int)).length = xs.length := hO.1
                have hlo2 : (nth RR (k1 : Int)).length = xs.length := hO.2.1
                have hlo3 := S.bitsTo_length (b1 : Int) xs.length
                have hns : ¬ ∃ p, S.SolP xs (nth RR (i1 : Int)) (nth RR (k1 : Int)) (S.bitsTo (b1 : Int) xs.length) p := ‹_›
                have hpy := (S.play_no hco hns).1
                have hnt : ¬ (ti = i1 ∧ tk = k1 ∧ tb = b1) := fun ⟨a, b, c⟩ => hns ⟨pt, by subst a b c; exact hpt⟩
                have hj2 : j1 = xs.length := by omega
                have hH114 := Heap.recast (n := 0) hH78 rfl (show _ = (S.bitsTo (b1 : Int) xs.length) from by rw [hj2])
                refine region (ops_y hH114 rfl rfl (yv_move rfl) ?_)
                refine ops_y hH114 rfl rfl (yv_loadA (cs := [(sv (nth TT (i1 : Int))), (sv (nth TT (k1 : Int))), v_b14]) T.agg41 rfl rfl (fun _ hw => Heap.cellsw hw (n := 1) rfl (k := 0) rfl)) ?_
                have hev117 : Fn Try.prog 32 [v5, (.agg #[(sv (nth TT (i1 : Int))), (sv (nth TT (k1 : Int))), v_b14])].toArray _ _ := c32 (h5.now hH114 (n := 2) rfl) ((hel i1 (by omega)).now hH114 (n := 2) rfl) ((hel k1 (by omega)).now hH114 (n := 2) rfl) (Heap.rdw T.el39_encI hH114 (n := 0) rfl) (by omega) (by omega) (by omega) (by omega)
                simp only [hpy] at hev117
                refine op_fn rfl rfl rfl hH114 (hev117) (fun u118 w115 lo119 hi120 hH116 hv121 => ?_)
                obtain ⟨p123, hu, -⟩ := hv121
                subst hu
                have hH122 := Heap.tup2 hH116 (n := 0) rfl
                refine ops_y hH122 rfl rfl (yv_move rfl) (ops_y hH122 rfl rfl (yv_extract rfl rfl) (ops_y hH122 rfl rfl (yv_extract rfl rfl) (ops_y hH122 rfl rfl (yv_assign rfl) (ops_y hH122 rfl rfl (yv_assign rfl) (ops_nil (thn_n (seq (seq (region ?_)))))))))
                refine ops_y hH122 rfl rfl (yv_move rfl) ?_
                refine ops_y hH122 rfl rfl (yv_castB rfl (yv_eql rfl rfl)) ?_
                refine ops_nil (thn_n ?_)
                refine cond_t rfl rfl ?_
                refine exit (thn_x (blk_here (thn_n (region (ops_y hH122 rfl rfl (yv_move rfl) ?_)))))
                refine ops_y hH122 rfl rfl (yv_add rfl rfl (by omega)) ?_
                refine ops_y hH122 rfl rfl (yv_assign rfl) (ops_nil ?_)
                have hH124 := (hH122.sub (List.Sublist.cons _ (List.Sublist.cons _ (List.Sublist.cons _ (List.Sublist.refl _)))))
                refine lp_n (b1 + 1, ff3) (Sub.cons rfl (Sub.cons rfl (Sub.cons rfl (Sub.cons rfl (Sub.cons rfl (Sub.cons rfl (Sub.cons rfl (Sub.nil _)))))))) ?_ ?_
                ·exact ⟨hH124, by omega, fun h => hf3 (by omega)⟩
                ·first | (dsimp only; omega) | (show _ < _; omega)
          ·skip
           refine cond_f rfl (decide_eq_false hc65) ?_
           refine exit (thn_x (lp_x (blk_here (blk_n (thn_n (region (ops_y hH64 rfl rfl (yv_move rfl) ?_)))))))
           refine ops_y hH64 rfl rfl (yv_add rfl rfl (by omega)) ?_
           refine ops_y hH64 rfl rfl (yv_assign rfl) (ops_nil ?_)
           refine lp_n (k1 + 1, ff3) (Sub.cons rfl (Sub.cons rfl (Sub.cons rfl (Sub.cons rfl (Sub.cons rfl (Sub.cons rfl (Sub.nil _))))))) ?_ ?_
           ·exact ⟨hH64, by omega, fun h => hf3 (by omega)⟩
           ·first | (dsimp only; omega) | (show _ < _; omega)
        ·skip
         refine cond_f rfl (decide_eq_false hc62) ?_
         refine exit (thn_x (lp_x (blk_here (blk_n (thn_n (region (ops_y hH61 rfl rfl (yv_move rfl) ?_)))))))
         refine ops_y hH61 rfl rfl (yv_add rfl rfl (by omega)) ?_
         refine ops_y hH61 rfl rfl (yv_assign rfl) (ops_nil ?_)
         refine lp_n (i1 + 1, ff2) (Sub.cons rfl (Sub.cons rfl (Sub.cons rfl (Sub.cons rfl (Sub.cons rfl (Sub.nil _)))))) ?_ ?_
         ·exact ⟨hH61, by omega, fun h => hf2 (by omega)⟩
         ·first | (dsimp only; omega) | (show _ < _; omega)
      ·skip
       have hff : ff = true := hf1 (by omega)
       refine cond_f rfl (decide_eq_false hc59) ?_
       refine exit (thn_x (lp_x (blk_here (thn_n (seq (region (ops_y hH58 rfl rfl (yv_move rfl) (ops_y hH58 rfl rfl (yv_move rfl) ?_))))))))
       have hc125 : ff = true := hff
       refine guard_yes rfl rfl hc125 ?_
       refine op_fnV rfl rfl rfl hH58 (c17) (fun w126 hH127 => ?_)
       refine ops_y hH127 rfl rfl (yv_pick_t rfl hc125 rfl) ?_
       refine ops_y hH127 rfl rfl (yv_assign rfl) (ops_nil (thn_n (ret ?_)))
       refine fin (Heap.unbase hH127 hbw) (fun w' hf => (res1 rfl (show RV _ _ _ (.tmp 4) _ from rfl))) (fun w' hf => ?_)
       rfl
   ·skip
    refine cond_f rfl (decide_eq_false hc30) ?_
    refine skip (thn_n (seq (seq (region (ops_y hH29 rfl rfl (yv_move rfl) ?_)))))
    refine ops_y hH29 rfl rfl (yv_len T.sl22 rfl (Rd.upto (h0.now hH29 (n := 3) rfl) (hi := (min (js.length : Int) 3).toNat) (by omega)).is) ?_
    refine ops_y hH29 rfl rfl (yv_eql rfl rfl) ?_
    refine ops_nil (thn_n ?_)
    by_cases hc128 : ((js.take (min (js.length : Int) 3).toNat).length : Int) = 3
    ·skip
     refine cond_t rfl (decide_eq_true hc128) ?_
     refine region ?_
     refine op_lit (us := [(0, (.int .i64 0)), (1, (.int .i64 1)), (2, (.int .i64 2))]) T.el39_encI [0, 1, 2] rfl (by decide) rfl (fun a ha => by simp [ha.ev (show ev _ (.const (.int .i64 0)) = some _ from rfl), ha.ev (show ev _ (.const (.int .i64 1)) = some _ from rfl), ha.ev (show ev _ (.const (.int .i64 2)) = some _ from rfl)]) (fun w => by kernel_rfl) hH29 (fun u129 lo131 hi132 w130 hH133 => ?_)
     refine op_fnV rfl rfl rfl hH133 (c50) (fun w134 hH135 => ?_)
     refine op_lit (us := [(0, (.int .i64 0)), (1, (.int .i64 2)), (2, (.int .i64 1))]) T.el39_encI [0, 2, 1] rfl (by decide) rfl (fun a ha => by simp [ha.ev (show ev _ (.const (.int .i64 0)) = some _ from rfl), ha.ev (show ev _ (.const (.int .i64 2)) = some _ from rfl), ha.ev (show ev _ (.const (.int .i64 1)) = some _ from rfl)]) (fun w => by kernel_rfl) hH135 (fun u136 lo138 hi139 w137 hH140 => ?_)
     refine op_fnV rfl rfl rfl hH140 (c50) (fun w141 hH142 => ?_)
     refine op_lit (us := [(0, (.int .i64 1)), (1, (.int .i64 0)), (2, (.int .i64 2))]) T.el39_encI [1, 0, 2] rfl (by decide) rfl (fun a ha => by simp [ha.ev (show ev _ (.const (.int .i64 1)) = some _ from rfl), ha.ev (show ev _ (.const (.int .i64 0)) = some _ from rfl), ha.ev (show ev _ (.const (.int .i64 2)) = some _ from rfl)]) (fun w => by kernel_rfl) hH142 (fun u143 lo145 hi146 w144 hH147 => ?_)
     refine op_fnV rfl rfl rfl hH147 (c50) (fun w148 hH149 => ?_)
     refine op_lit (us := [(0, (.int .i64 1)), (1, (.int .i64 2)), (2, (.int .i64 0))]) T.el39_encI [1, 2, 0] rfl (by decide) rfl (fun a ha => by simp [ha.ev (show ev _ (.const (.int .i64 1)) = some _ from rfl), ha.ev (show ev _ (.const (.int .i64 2)) = some _ from rfl), ha.ev (show ev _ (.const (.int .i64 0)) = some _ from rfl)]) (fun w => by kernel_rfl) hH149 (fun u150 lo152 hi153 w151 hH154 => ?_)
     refine op_fnV rfl rfl rfl hH154 (c50) (fun w155 hH156 => ?_)
     refine op_lit (us := [(0, (.int .i64 2)), (1, (.int .i64 0)), (2, (.int .i64 1))]) T.el39_encI [2, 0, 1] rfl (by decide) rfl (fun a ha => by simp [ha.ev (show ev _ (.const (.int .i64 2)) = some _ from rfl), ha.ev (show ev _ (.const (.int .i64 0)) = some _ from rfl), ha.ev (show ev _ (.const (.int .i64 1)) = some _ from rfl)]) (fun w => by kernel_rfl) hH156 (fun u157 lo159 hi160 w158 hH161 => ?_)
     refine op_fnV rfl rfl rfl hH161 (c50) (fun w162 hH163 => ?_)
     refine op_lit (us := [(0, (.int .i64 2)), (1, (.int .i64 1)), (2, (.int .i64 0))]) T.el39_encI [2, 1, 0] rfl (by decide) rfl (fun a ha => by simp [ha.ev (show ev _ (.const (.int .i64 2)) = some _ from rfl), ha.ev (show ev _ (.const (.int .i64 1)) = some _ from rfl), ha.ev (show ev _ (.const (.int .i64 0)) = some _ from rfl)]) (fun w => by kernel_rfl) hH163 (fun u164 lo166 hi167 w165 hH168 => ?_)
     refine op_fnV rfl rfl rfl hH168 (c50) (fun w169 hH170 => ?_)
     obtain ⟨s171, hs172⟩ := Heap.sv hH170 (n := 5) rfl (by simp)
     obtain ⟨s173, hs174⟩ := Heap.sv hH170 (n := 4) rfl (by simp)
     obtain ⟨s175, hs176⟩ := Heap.sv hH170 (n := 3) rfl (by simp)
     obtain ⟨s177, hs178⟩ := Heap.sv hH170 (n := 2) rfl (by simp)
     obtain ⟨s179, hs180⟩ := Heap.sv hH170 (n := 1) rfl (by simp)
     obtain ⟨s181, hs182⟩ := Heap.sv hH170 (n := 0) rfl (by simp)
     refine op_lit (us := [(0, u129), (1, u136), (2, u143), (3, u150), (4, u157), (5, u164)]) T.el67_encS [s171, s173, s175, s177, s179, s181] rfl (by decide) rfl (fun a ha => by simp [ha.ev (show ev _ (.tmp 58) = some _ from rfl), ha.ev (show ev _ (.tmp 60) = some _ from rfl), ha.ev (show ev _ (.tmp 62) = some _ from rfl), ha.ev (show ev _ (.tmp 64) = some _ from rfl), ha.ev (show ev _ (.tmp 66) = some _ from rfl), ha.ev (show ev _ (.tmp 68) = some _ from rfl)]) (fun w => by rw [hs172, hs174, hs176, hs178, hs180, hs182]; kernel_rfl) hH170 (fun u183 lo185 hi186 w184 hH187 => ?_)
     refine ops_y hH187 rfl rfl (yv_assign rfl) (ops_nil (thn_n ?_))
     refine cut (S := World × List S.Pr × Value × Value × List (Nat × Nat × Nat) × List (List Int)) (fun (w0, xs, v5, v9, TT, RR) => [(5, v5), (6, (.int .i64 (S.shortestOf xs))), (9, v9), (10, (.bool false)), (4, (.bool false))]) (fun (w0, xs, v5, v9, TT, RR) w1 => Heap [base w0] w1 ∧ Below w.heap.size w w0 ∧ Rd encP 2 v5 xs w0 ∧ S.Jobs xs ∧ S.RowsOf xs.length RR ∧ Rd encS 1 v9 TT w0 ∧ TT.length = RR.length ∧ ∀ i : Nat, i < TT.length → Rd encI 1 (sv (nth TT (i : Int))) (nth RR (i : Int)) w0) ?_ ?_
     ·skip
      refine region (ops_y hH187 rfl rfl (yv_assign rfl) (ops_nil ?_))
      refine mid_n (w184, (js.take (min (js.length : Int) 3).toNat), (cutv v 2 0 (min (js.length : Int) 3).toNat), u183, [s171, s173, s175, s177, s179, s181], [[0, 1, 2], [0, 2, 1], [1, 0, 2], [1, 2, 0], [2, 0, 1], [2, 1, 0]]) (Sub.cons rfl (Sub.cons rfl (Sub.cons rfl (Sub.cons rfl (Sub.cons rfl (Sub.nil _)))))) ?_
      exact ⟨Heap.start w184, hH187.get (n := 10) rfl, (Rd.upto (h0.now hH187 (n := 10) rfl) (hi := (min (js.length : Int) 3).toNat) (by omega)), hjt, (by rw [show (js.take (min (js.length : Int) 3).toNat).length = 3 by omega]; exact S.rows3), (Heap.rdw T.el67_encS hH187 (n := 0) rfl), rfl, S.all6 (by show Rd encI 1 (sv s171) [0, 1, 2] _; rw [← hs172]; exact Heap.rdw T.el39_encI hH187 (n := 6) rfl) (by show Rd encI 1 (sv s173) [0, 2, 1] _; rw [← hs174]; exact Heap.rdw T.el39_encI hH187 (n := 5) rfl) (by show Rd encI 1 (sv s175) [1, 0, 2] _; rw [← hs176]; exact Heap.rdw T.el39_encI hH187 (n := 4) rfl) (by show Rd encI 1 (sv s177) [1, 2, 0] _; rw [← hs178]; exact Heap.rdw T.el39_encI hH187 (n := 3) rfl) (by show Rd encI 1 (sv s179) [2, 0, 1] _; rw [← hs180]; exact Heap.rdw T.el39_encI hH187 (n := 2) rfl) (by show Rd encI 1 (sv s181) [2, 1, 0] _; rw [← hs182]; exact Heap.rdw T.el39_encI hH187 (n := 1) rfl)⟩
     ·rintro ⟨w0, xs, v5, v9, TT, RR⟩ w188 ⟨hH189, hbw, h5, hjx, hRR, h9, hTl, hel⟩
      show Holds _ _ _ _ _ [(5, v5), (6, (.int .i64 (S.shortestOf xs))), (9, v9), (10, (.bool false)), (4, (.bool false))] _ _
      refine seq (seq ?_)
      obtain ⟨ti, tk, tb, hti, htk, htb, pt, hpt, hpe⟩ := S.target hjx hRR
      have hx1 := hjx.1
      have hx3 := hRR.1
      have hR6 := hRR.2.1
      have hpw := S.pw_le xs.length
      refine region (ops_y hH189 rfl rfl (yv_assign rfl) (ops_nil (thn_n (block ?_))))
      refine loop (S := Nat × Bool) (fun (i1, ff) => [(11, (.int .i64 (i1 : Int))), (10, (.bool ff)), (5, v5), (6, (.int .i64 (S.shortestOf xs))), (9, v9)]) (fun (i1, ff) w1 => Heap [base w0] w1 ∧ i1 ≤ RR.length ∧ (ti < i1 → ff = true)) (fun (i1, ff) => RR.length - i1) (0, false) (Sub.cons rfl (Sub.cons rfl (Sub.cons rfl (Sub.cons rfl (Sub.cons rfl (Sub.nil _)))))) ?_ ?_
      ·exact ⟨hH189, by omega, fun h => by omega⟩
      ·rintro ⟨i1, ff⟩ w190 ⟨hH191, hi1, hf1⟩
       show Holds _ _ _ _ _ [(11, (.int .i64 (i1 : Int))), (10, (.bool ff)), (5, v5), (6, (.int .i64 (S.shortestOf xs))), (9, v9)] _ _
       refine seq (seq (region (ops_y hH191 rfl rfl (yv_move rfl) (ops_y hH191 rfl rfl (yv_move rfl) ?_))))
       refine ops_y hH191 rfl rfl (yv_len T.sl67 rfl (h9.now hH191 (n := 0) rfl).is) ?_
       refine ops_y hH191 rfl rfl (yv_lss rfl rfl) ?_
       refine ops_nil (thn_n ?_)
       by_cases hc192 : (i1 : Int) < (TT.length : Int)
       ·skip
        refine cond_t rfl (decide_eq_true hc192) ?_
        refine skip (thn_n (seq (block (seq (region (ops_y hH191 rfl rfl (yv_assign rfl) (ops_nil (thn_n (block ?_)))))))))
        refine loop (S := Nat × Bool) (fun (k1, ff2) => [(12, (.int .i64 (k1 : Int))), (10, (.bool ff2)), (5, v5), (6, (.int .i64 (S.shortestOf xs))), (9, v9), (11, (.int .i64 (i1 : Int)))]) (fun (k1, ff2) w1 => Heap [base w0] w1 ∧ k1 ≤ RR.length ∧ (ti < i1 ∨ (ti = i1 ∧ tk < k1) → ff2 = true)) (fun (k1, ff2) => RR.length - k1) (0, ff) (Sub.cons rfl (Sub.cons rfl (Sub.cons rfl (Sub.cons rfl (Sub.cons rfl (Sub.cons rfl (Sub.nil _))))))) ?_ ?_
        ·exact ⟨hH191, by omega, fun h => hf1 (by omega)⟩
        ·rintro ⟨k1, ff2⟩ w193 ⟨hH194, hk1, hf2⟩
         show Holds _ _ _ _ _ [(12, (.int .i64 (k1 : Int))), (10, (.bool ff2)), (5, v5), (6, (.int .i64 (S.shortestOf xs))), (9, v9), (11, (.int .i64 (i1 : Int)))] _ _
         refine seq (seq (region (ops_y hH194 rfl rfl (yv_move rfl) (ops_y hH194 rfl rfl (yv_move rfl) ?_))))
         refine ops_y hH194 rfl rfl (yv_len T.sl67 rfl (h9.now hH194 (n := 0) rfl).is) ?_
         refine ops_y hH194 rfl rfl (yv_lss rfl rfl) ?_
         refine ops_nil (thn_n ?_)
         by_cases hc195 : (k1 : Int) < (TT.length : Int)
         ·skip
          refine cond_t rfl (decide_eq_true hc195) ?_
          refine skip (thn_n (seq (block (seq (region (ops_y hH194 rfl rfl (yv_assign rfl) (ops_nil (thn_n (block ?_)))))))))
          refine loop (S := Nat × Bool) (fun (b1, ff3) => [(13, (.int .i64 (b1 : Int))), (10, (.bool ff3)), (5, v5), (6, (.int .i64 (S.shortestOf xs))), (9, v9), (11, (.int .i64 (i1 : Int))), (12, (.int .i64 (k1 : Int)))]) (fun (b1, ff3) w1 => Heap [base w0] w1 ∧ b1 ≤ S.pw xs.length ∧ ((ti < i1 ∨ (ti = i1 ∧ tk < k1)) ∨ (ti = i1 ∧ tk = k1 ∧ tb < b1) → ff3 = true)) (fun (b1, ff3) => S.pw xs.length - b1) (0, ff2) (Sub.cons rfl (Sub.cons rfl (Sub.cons rfl (Sub.cons rfl (Sub.cons rfl (Sub.cons rfl (Sub.cons rfl (Sub.nil _)))))))) ?_ ?_
          ·exact ⟨hH194, by omega, fun h => hf2 (by omega)⟩
          ·rintro ⟨b1, ff3⟩ w196 ⟨hH197, hb1, hf3⟩
           show Holds _ _ _ _ _ [(13, (.int .i64 (b1 : Int))), (10, (.bool ff3)), (5, v5), (6, (.int .i64 (S.shortestOf xs))), (9, v9), (11, (.int .i64 (i1 : Int))), (12, (.int .i64 (k1 : Int)))] _ _
           refine seq (seq (region (ops_y hH197 rfl rfl (yv_move rfl) (ops_y hH197 rfl rfl (yv_move rfl) ?_))))
           refine ops_y hH197 rfl rfl (yv_len T.sl22 rfl (h5.now hH197 (n := 0) rfl).is) ?_
           refine ops_y hH197 rfl rfl (yv_shl1 rfl rfl (by omega) (S.pw_shl (n := xs.length) hx3)) ?_
           refine ops_y hH197 rfl rfl (yv_lss rfl rfl) ?_
           refine ops_nil (thn_n ?_)
           by_cases hc198 : (b1 : Int) < (S.pw xs.length : Int)
           ·skip
            refine cond_t rfl (decide_eq_true hc198) ?_
            refine skip (thn_n (seq (block (seq ?_))))
            refine region_drawY (fun w' => Heap [base w0] w') [] T.mixed (fun w199 hr200 => ?_)
            have hH201 := hH197.redrawn hr200
            refine any_takesT [0, 1, 2, 4, 5, 6] (by kernel_rfl)  _ _ _ (by kernel_rfl) ?_
            refine qs_y rfl rfl (yv_move rfl) (qs_y rfl rfl (yv_move rfl) ?_)
            refine qs_y rfl rfl (yv_index T.sl67 rfl rfl (h9.now hH201 (n := 0) rfl).is (by omega)) ?_
            refine qs_y rfl rfl (yv_move rfl) (qs_y rfl rfl (yv_move rfl) ?_)
            refine qs_y rfl rfl (yv_index T.sl67 rfl rfl (h9.now hH201 (n := 0) rfl).is (by omega)) ?_
            refine qs_nil ?_
            refine any_takesY [3, 7] (by kernel_rfl) hH201 _ _ _ (by kernel_rfl) ?_
            refine qs_y rfl rfl (yv_load T.one39 rfl (fun _ hw => Rd.at (h9.now hw (n := 0) rfl) (i := (i1 : Int)) (by omega) (j := 0) rfl)) ?_
            refine qs_y rfl rfl (yv_load T.one39 rfl (fun _ hw => Rd.at (h9.now hw (n := 0) rfl) (i := (k1 : Int)) (by omega) (j := 0) rfl)) ?_
            refine qs_nil ?_
            obtain ⟨_, _, hb202, _⟩ := ((hel i1 (by omega)).now hH201 (n := 0) rfl).is
            obtain ⟨_, _, hb203, _⟩ := ((hel k1 (by omega)).now hH201 (n := 0) rfl).is
            refine any_takesT [8] (by kernel_rfl)  _ _ _ (by kernel_rfl) ?_
            refine qs_y rfl rfl (yv_build (v := (.agg #[(sv (nth TT (i1 : Int))), (sv (nth TT (k1 : Int))), (.slice none 0 0)])) (us := [(0, (sv (nth TT (i1 : Int)))), (1, (sv (nth TT (k1 : Int))))]) (fun a ha => by simp [ha.ev (show ev _ (.tmp 92) = some _ from rfl), ha.ev (show ev _ (.tmp 96) = some _ from rfl)]) (fun w => by rw [hb202, hb203]; kernel_rfl)) ?_
            refine qs_nil ?_
            refine any_allY [9] (by kernel_rfl) rfl ?_
            refine ⟨⟨_, rfl, ?_⟩, trivial⟩
            ·skip
             refine op_alloc (z := (.agg #[(.slice none 0 0), (.slice none 0 0), (.slice none 0 0)])) (us := [(.slice none 0 0), (.slice none 0 0), (.slice none 0 0)]) (fun _ => by kernel_rfl) rfl rfl hH201 (fun b204 w205 hH206 => ?_)
             refine ops_nil ?_
             refine ⟨fun _ _ => (hH206.sub (List.Sublist.cons _ (List.Sublist.refl _))), ?_⟩
             refine any_allY [10] (by kernel_rfl) rfl ?_
             refine ⟨⟨_, rfl, ?_⟩, trivial⟩
             ·skip
              refine op_store (n := 0) (j := 0) (us := [(sv (nth TT (i1 : Int))), (sv (nth TT (k1 : Int))), (.slice none 0 0)]) rfl rfl hH206 rfl T.sz41 rfl rfl rfl (all_one (SliceIs.one1 ((hel i1 (by omega)).now hH206 (n := 1) rfl).is) (all_one (SliceIs.one1 ((hel k1 (by omega)).now hH206 (n := 1) rfl).is) (all_one rfl rfl))) (fun w207 hH208 => ?_)
              refine ops_nil ?_
              refine ⟨fun _ _ => (hH208.sub (List.Sublist.cons _ (List.Sublist.refl _))), ?_⟩
              refine any_doneY (by kernel_rfl) ?_
              refine thn_n (seq (seq (region (ops_y hH208 rfl rfl (yv_assign rfl) (ops_nil (thn_n (block ?_)))))))
              have hH209 := ow_nil (enc := encI) 3 1 hH208
              refine loop (S := Nat × Value × Nat × Nat) (fun (j1, v_b14, lo_b14, hi_b14) => [(15, (.int .i64 (j1 : Int))), (5, v5), (6, (.int .i64 (S.shortestOf xs))), (9, v9), (10, (.bool ff3)), (11, (.int .i64 (i1 : Int))), (12, (.int .i64 (k1 : Int))), (13, (.int .i64 (b1 : Int))), (14, (.pointer (some ⟨b204, 0, none⟩)))]) (fun (j1, v_b14, lo_b14, hi_b14) w1 => Heap [ow lo_b14 hi_b14 3 1 encI v_b14 (S.bitsTo (b1 : Int) j1), bx b204 41 [(sv (nth TT (i1 : Int))), (sv (nth TT (k1 : Int))), v_b14], base w0] w1 ∧ j1 ≤ xs.length) (fun (j1, v_b14, lo_b14, hi_b14) => xs.length - j1) (0, (.slice none 0 0), w207.heap.size, w207.heap.size) (Sub.cons rfl (Sub.cons rfl (Sub.cons rfl (Sub.cons rfl (Sub.cons rfl (Sub.cons rfl (Sub.cons rfl (Sub.cons rfl (Sub.cons rfl (Sub.nil _)))))))))) ?_ ?_
              ·exact ⟨hH209, by omega⟩
              ·rintro ⟨j1, v_b14, lo_b14, hi_b14⟩ w210 ⟨hH211, hj1⟩
               show Holds _ _ _ _ _ [(15, (.int .i64 (j1 : Int))), (5, v5), (6, (.int .i64 (S.shortestOf xs))), (9, v9), (10, (.bool ff3)), (11, (.int .i64 (i1 : Int))), (12, (.int .i64 (k1 : Int))), (13, (.int .i64 (b1 : Int))), (14, (.pointer (some ⟨b204, 0, none⟩)))] _ _
               refine seq (seq (region (ops_y hH211 rfl rfl (yv_move rfl) (ops_y hH211 rfl rfl (yv_move rfl) ?_))))
               refine ops_y hH211 rfl rfl (yv_len T.sl22 rfl (h5.now hH211 (n := 2) rfl).is) ?_
               refine ops_y hH211 rfl rfl (yv_lss rfl rfl) ?_
               refine ops_nil (thn_n ?_)
               by_cases hc212 : (j1 : Int) < (xs.length : Int)
               ·skip
                refine cond_t rfl (decide_eq_true hc212) ?_
                refine skip (thn_n (seq (block ?_)))
                have hq := S.shr_bd (b := b1) (k := (j1 : Int).toNat)
                have hlb := S.bitsTo_length (b1 : Int) j1
                refine region_drawY (fun w' => Heap [bx b204 41 [(sv (nth TT (i1 : Int))), (sv (nth TT (k1 : Int))), v_b14], base w0] w') [9] T.mixed (fun w213 hr214 => ?_)
                have hH215 := hH211.redrawn hr214
                refine any_takesT [0, 2, 3, 4, 5] (by kernel_rfl)  _ _ _ (by kernel_rfl) ?_
                refine qs_y rfl rfl (yv_field T.f41_2 rfl) ?_
                refine qs_y rfl rfl (yv_move rfl) (qs_y rfl rfl (yv_move rfl) ?_)
                refine qs_y rfl rfl (yv_shr rfl rfl (by omega)) ?_
                refine qs_y rfl rfl (yv_and1 rfl rfl hq.1 (by omega)) ?_
                refine qs_nil ?_
                refine any_takesY [1] (by kernel_rfl) (hH215.sub (List.Sublist.cons _ (List.Sublist.refl _))) _ _ _ (by kernel_rfl) ?_
                refine qs_y rfl rfl (yv_load T.one39 rfl (fun _ hw => Heap.cellw hw (n := 0) rfl rfl)) ?_
                refine qs_nil ?_
                refine any_allY [6] (by kernel_rfl) rfl ?_
                refine ⟨⟨_, rfl, ?_⟩, trivial⟩
                ·skip
                 refine op_lit (us := [(0, (.int .i64 ((b1 : Int) / 2 ^ (j1 : Int).toNat % 2)))]) T.el39_encI [(b1 : Int) / 2 ^ (j1 : Int).toNat % 2] rfl (by decide) rfl (fun a ha => by simp [ha.ev (show ev _ (.tmp 109) = some _ from rfl)]) (fun w => by kernel_rfl) hH215 (fun u216 lo218 hi219 w217 hH220 => ?_)
                 refine ops_nil ?_
                 refine ⟨fun _ _ => (hH220.sub (List.Sublist.cons _ (List.Sublist.cons _ (List.Sublist.refl _)))), ?_⟩
                 refine any_allY [7] (by kernel_rfl) rfl ?_
                 refine ⟨⟨_, rfl, ?_⟩, trivial⟩
                 ·skip
                  refine op_append (n := 1) T.el39_encI rfl rfl rfl hH220 rfl (Heap.rdw T.el39_encI hH220 (n := 0) rfl) (by first | omega | (simp only [List.length_append, List.length_cons, List.length_nil]; omega)) (fun u221 lo223 hi224 w222 hH225 => ?_)
                  refine ops_nil ?_
                  refine ⟨fun _ _ => (hH225.sub (List.Sublist.cons _ (List.Sublist.cons _ (List.Sublist.refl _)))), ?_⟩
                  refine any_takesT [8] (by kernel_rfl)  _ _ _ (by kernel_rfl) ?_
                  refine qs_y rfl rfl (yv_field T.f41_2 rfl) ?_
                  refine qs_nil ?_
                  refine any_allY [9] (by kernel_rfl) rfl ?_
                  refine ⟨⟨_, rfl, ?_⟩, trivial⟩
                  ·skip
                   refine op_store (n := 2) (j := 2) (us := [u221]) rfl rfl hH225 rfl T.sz39 (SliceIs.cells (Heap.rdw T.el39_encI hH225 (n := 1) rfl).is) rfl rfl (SliceIs.one (Heap.rdw T.el39_encI hH225 (n := 1) rfl).is) (fun w226 hH227 => ?_)
                   refine ops_nil ?_
                   refine ⟨(fun h => by cases h), ?_⟩
                   refine any_doneY (by kernel_rfl) ?_
                   refine blk_n (thn_n (region (ops_y hH227 rfl rfl (yv_move rfl) ?_)))
                   refine ops_y hH227 rfl rfl (yv_add rfl rfl (by omega)) ?_
                   refine ops_y hH227 rfl rfl (yv_assign rfl) (ops_nil ?_)
                   have hH228 := (hH227.sub (List.Sublist.cons _ (List.Sublist.refl _)))
                   refine lp_n (j1 + 1, u221, lo223, hi224) (Sub.cons rfl (Sub.cons rfl (Sub.cons rfl (Sub.cons rfl (Sub.cons rfl (Sub.cons rfl (Sub.cons rfl (Sub.cons rfl (Sub.cons rfl (Sub.nil _)))))))))) ?_ ?_
                   ·exact ⟨(Heap.recast (n := 0) hH228 rfl (rfl)), by omega⟩
                   ·first | (dsimp only; omega) | (show _ < _; omega)
               ·skip
                refine cond_f rfl (decide_eq_false hc212) ?_
                refine exit (thn_x (lp_x (blk_here (thn_n (seq ?_)))))
                by_cases hc229 : ∃ p, S.SolP xs (nth RR (i1 : Int)) (nth RR (k1 : Int)) (S.bitsTo (b1 : Int) xs.length) p
                ·skip
                 have hO := S.rows_ord hRR (i := i1) (k := k1) (by omega) (by omega) (b1 : Int)
                 have hco := S.checkOrder_iff.2 ⟨hjx, hO⟩
                 have hlo1 : (nth RR (i1 : Int)).length = xs.length := hO.1
                 have hlo2 : (nth RR (k1 : Int)).length = xs.length := hO.2.1
                 have hlo3 := S.bitsTo_length (b1 : Int) xs.length
                 obtain ⟨p, hs⟩ := ‹∃ p, S.SolP xs (nth RR (i1 : Int)) (nth RR (k1 : Int)) (S.bitsTo (b1 : Int) xs.length) p›
                 have hpyy := (S.play_yes hjx hco hs).1
                 have hck := hs.check hjx hO
                 have hse := S.shortest_le_end hjx (hs.allT hjx) hs.1 (hs.right hjx hO)
                 have hpn := hs.1
                 have heq : (ti = i1 ∧ tk = k1 ∧ tb = b1) → S.endOf xs p = S.shortestOf xs := fun ⟨a, b, c⟩ => by subst a b c; rw [S.sol_same hjx hs hpt]; exact hpe
                 have hj2 : j1 = xs.length := by omega
                 have hH230 := Heap.recast (n := 0) hH211 rfl (show _ = (S.bitsTo (b1 : Int) xs.length) from by rw [hj2])
                 refine region (ops_y hH230 rfl rfl (yv_move rfl) ?_)
                 refine ops_y hH230 rfl rfl (yv_loadA (cs := [(sv (nth TT (i1 : Int))), (sv (nth TT (k1 : Int))), v_b14]) T.agg41 rfl rfl (fun _ hw => Heap.cellsw hw (n := 1) rfl (k := 0) rfl)) ?_
                 have hev233 : Fn Try.prog 32 [v5, (.agg #[(sv (nth TT (i1 : Int))), (sv (nth TT (k1 : Int))), v_b14])].toArray _ _ := c32 (h5.now hH230 (n := 2) rfl) ((hel i1 (by omega)).now hH230 (n := 2) rfl) ((hel k1 (by omega)).now hH230 (n := 2) rfl) (Heap.rdw T.el39_encI hH230 (n := 0) rfl) (by omega) (by omega) (by omega) (by omega)
                 simp only [hpyy] at hev233
                 refine op_fn rfl rfl rfl hH230 (hev233) (fun u234 w231 lo235 hi236 hH232 hv237 => ?_)
                 obtain ⟨p239, hu, -⟩ := hv237
                 subst hu
                 have hH238 := Heap.tup2 hH232 (n := 0) rfl
                 refine ops_y hH238 rfl rfl (yv_move rfl) (ops_y hH238 rfl rfl (yv_extract rfl rfl) (ops_y hH238 rfl rfl (yv_extract rfl rfl) (ops_y hH238 rfl rfl (yv_assign rfl) (ops_y hH238 rfl rfl (yv_assign rfl) (ops_nil (thn_n (seq (seq (region ?_)))))))))
                 refine ops_y hH238 rfl rfl (yv_move rfl) ?_
                 refine ops_y hH238 rfl rfl (yv_castB rfl (yv_eql rfl rfl)) ?_
                 refine ops_nil (thn_n ?_)
                 refine cond_f rfl rfl ?_
                 refine skip (thn_n (seq (region (ops_y hH238 rfl rfl (yv_move rfl) (ops_y hH238 rfl rfl (yv_move rfl) ?_)))))
                 have hev242 : Fn Try.prog 19 [v5, p239].toArray _ _ := c19 (h5.now hH238 (n := 3) rfl) (Heap.rdw T.el23_encP hH238 (n := 0) rfl) (by omega) (by omega)
                 simp only [hck] at hev242
                 refine op_fnV rfl rfl rfl hH238 (hev242) (fun w240 hH241 => ?_)
                 refine ops_y hH241 rfl rfl (yv_move rfl) (ops_y hH241 rfl rfl (yv_extract rfl rfl) (ops_y hH241 rfl rfl (yv_extract rfl rfl) (ops_y hH241 rfl rfl (yv_assign rfl) (ops_y hH241 rfl rfl (yv_assign rfl) (ops_nil (thn_n (seq (seq (region ?_)))))))))
                 refine ops_y hH241 rfl rfl (yv_move rfl) ?_
                 refine ops_y hH241 rfl rfl (yv_castB rfl (yv_neq rfl rfl)) ?_
                 refine ops_y hH241 rfl rfl (yv_move rfl) (guard_yes rfl rfl rfl (ops_y hH241 rfl rfl (yv_move rfl) (guard_yes rfl rfl rfl ?_)))
                 refine ops_y hH241 rfl rfl (yv_castB rfl (yv_neq rfl rfl)) ?_
                 refine ops_y hH241 rfl rfl (yv_pick_f rfl rfl rfl) ?_
                 refine ops_y hH241 rfl rfl (yv_move rfl) (guard_yes rfl rfl rfl (ops_y hH241 rfl rfl (yv_move rfl) (guard_yes rfl rfl rfl (ops_y hH241 rfl rfl (yv_move rfl) (guard_yes rfl rfl rfl ?_)))))
                 refine ops_y hH241 rfl rfl (yv_lss rfl rfl) ?_
                 refine ops_y hH241 rfl rfl (yv_pick_f rfl rfl rfl) ?_
                 refine ops_nil (thn_n ?_)
                 have hc243 : ¬ ((S.endOf xs p) < (S.shortestOf xs)) := by omega
                 refine cond_f rfl (decide_eq_false hc243) ?_
                 refine skip (thn_n (region (ops_y hH241 rfl rfl (yv_move rfl) (ops_y hH241 rfl rfl (yv_move rfl) ?_))))
                 by_cases hc244 : ff3 = true
                 ·skip
                  refine guard_no rfl rfl hc244 rfl ?_
                  refine guard_no rfl rfl hc244 rfl ?_
                  refine guard_no rfl rfl hc244 rfl ?_
                  refine ops_y hH241 rfl rfl (yv_pick_t rfl hc244 rfl) ?_
                  refine ops_y hH241 rfl rfl (yv_assign rfl) (ops_nil (blk_n (thn_n (region (ops_y hH241 rfl rfl (yv_move rfl) ?_)))))
                  refine ops_y hH241 rfl rfl (yv_add rfl rfl (by omega)) ?_
                  refine ops_y hH241 rfl rfl (yv_assign rfl) (ops_nil ?_)
                  have hH245 := (hH241.sub (List.Sublist.cons _ (List.Sublist.cons _ (List.Sublist.cons _ (List.Sublist.refl _)))))
                  refine lp_n (b1 + 1, true) (Sub.cons rfl (Sub.cons rfl (Sub.cons rfl (Sub.cons rfl (Sub.cons rfl (Sub.cons rfl (Sub.cons rfl (Sub.nil _)))))))) ?_ ?_
                  ·exact ⟨hH245, by omega, fun _ => rfl⟩
                  ·first | (dsimp only; omega) | (show _ < _; omega)
                 ·skip
                  refine guard_yes rfl rfl (Bool.eq_false_iff.2 hc244) ?_
                  refine ops_y hH241 rfl rfl (yv_move rfl) ?_
                  refine guard_yes rfl rfl (Bool.eq_false_iff.2 hc244) ?_
                  refine ops_y hH241 rfl rfl (yv_move rfl) ?_
                  refine guard_yes rfl rfl (Bool.eq_false_iff.2 hc244) ?_
                  refine ops_y hH241 rfl rfl (yv_eql rfl rfl) ?_
                  refine ops_y hH241 rfl rfl (yv_pick_f rfl (Bool.eq_false_iff.2 hc244) rfl) ?_
                  refine ops_y hH241 rfl rfl (yv_assign rfl) (ops_nil (blk_n (thn_n (region (ops_y hH241 rfl rfl (yv_move rfl) ?_)))))
                  refine ops_y hH241 rfl rfl (yv_add rfl rfl (by omega)) ?_
                  refine ops_y hH241 rfl rfl (yv_assign rfl) (ops_nil ?_)
                  have hH246 := (hH241.sub (List.Sublist.cons _ (List.Sublist.cons _ (List.Sublist.cons _ (List.Sublist.refl _)))))
                  refine lp_n (b1 + 1, decide ((S.endOf xs p) = (S.shortestOf xs))) (Sub.cons rfl (Sub.cons rfl (Sub.cons rfl (Sub.cons rfl (Sub.cons rfl (Sub.cons rfl (Sub.cons rfl (Sub.nil _)))))))) ?_ ?_
                  ·exact ⟨hH246, by omega, fun h => decide_eq_true (heq (Classical.byContradiction fun hc => absurd (hf3 (by omega)) ‹¬ ff3 = true›))⟩
                  ·first | (dsimp only; omega) | (show _ < _; omega)
                ·skip
                 have hO := S.rows_ord hRR (i := i1) (k := k1) (by omega) (by omega) (b1 : Int)
                 have hco := S.checkOrder_iff.2 ⟨hjx, hO⟩
                 have hlo1 : (nth RR (i1 : Int)).length = xs.length := hO.1
                 have hlo2 : (nth RR (k1 : Int)).length = xs.length := hO.2.1
                 have hlo3 := S.bitsTo_length (b1 : Int) xs.length
                 have hns : ¬ ∃ p, S.SolP xs (nth RR (i1 : Int)) (nth RR (k1 : Int)) (S.bitsTo (b1 : Int) xs.length) p := ‹_›
                 have hpy := (S.play_no hco hns).1
                 have hnt : ¬ (ti = i1 ∧ tk = k1 ∧ tb = b1) := fun ⟨a, b, c⟩ => hns ⟨pt, by subst a b c; exact hpt⟩
                 have hj2 : j1 = xs.length := by omega
                 have hH247 := Heap.recast (n := 0) hH211 rfl (show _ = (S.bitsTo (b1 : Int) xs.length) from by rw [hj2])
                 refine region (ops_y hH247 rfl rfl (yv_move rfl) ?_)
                 refine ops_y hH247 rfl rfl (yv_loadA (cs := [(sv (nth TT (i1 : Int))), (sv (nth TT (k1 : Int))), v_b14]) T.agg41 rfl rfl (fun _ hw => Heap.cellsw hw (n := 1) rfl (k := 0) rfl)) ?_
                 have hev250 : Fn Try.prog 32 [v5, (.agg #[(sv (nth TT (i1 : Int))), (sv (nth TT (k1 : Int))), v_b14])].toArray _ _ := c32 (h5.now hH247 (n := 2) rfl) ((hel i1 (by omega)).now hH247 (n := 2) rfl) ((hel k1 (by omega)).now hH247 (n := 2) rfl) (Heap.rdw T.el39_encI hH247 (n := 0) rfl) (by omega) (by omega) (by omega) (by omega)
                 simp only [hpy] at hev250
                 refine op_fn rfl rfl rfl hH247 (hev250) (fun u251 w248 lo252 hi253 hH249 hv254 => ?_)
                 obtain ⟨p256, hu, -⟩ := hv254
                 subst hu
                 have hH255 := Heap.tup2 hH249 (n := 0) rfl
                 refine ops_y hH255 rfl rfl (yv_move rfl) (ops_y hH255 rfl rfl (yv_extract rfl rfl) (ops_y hH255 rfl rfl (yv_extract rfl rfl) (ops_y hH255 rfl rfl (yv_assign rfl) (ops_y hH255 rfl rfl (yv_assign rfl) (ops_nil (thn_n (seq (seq (region ?_)))))))))
                 refine ops_y hH255 rfl rfl (yv_move rfl) ?_
                 refine ops_y hH255 rfl rfl (yv_castB rfl (yv_eql rfl rfl)) ?_
                 refine ops_nil (thn_n ?_)
                 refine cond_t rfl rfl ?_
                 refine exit (thn_x (blk_here (thn_n (region (ops_y hH255 rfl rfl (yv_move rfl) ?_)))))
                 refine ops_y hH255 rfl rfl (yv_add rfl rfl (by omega)) ?_
                 refine ops_y hH255 rfl rfl (yv_assign rfl) (ops_nil ?_)
                 have hH257 := (hH255.sub (List.Sublist.cons _ (List.Sublist.cons _ (List.Sublist.cons _ (List.Sublist.refl _)))))
                 refine lp_n (b1 + 1, ff3) (Sub.cons rfl (Sub.cons rfl (Sub.cons rfl (Sub.cons rfl (Sub.cons rfl (Sub.cons rfl (Sub.cons rfl (Sub.nil _)))))))) ?_ ?_
                 ·exact ⟨hH257, by omega, fun h => hf3 (by omega)⟩
                 ·first | (dsimp only; omega) | (show _ < _; omega)
           ·skip
            refine cond_f rfl (decide_eq_false hc198) ?_
            refine exit (thn_x (lp_x (blk_here (blk_n (thn_n (region (ops_y hH197 rfl rfl (yv_move rfl) ?_)))))))
            refine ops_y hH197 rfl rfl (yv_add rfl rfl (by omega)) ?_
            refine ops_y hH197 rfl rfl (yv_assign rfl) (ops_nil ?_)
            refine lp_n (k1 + 1, ff3) (Sub.cons rfl (Sub.cons rfl (Sub.cons rfl (Sub.cons rfl (Sub.cons rfl (Sub.cons rfl (Sub.nil _))))))) ?_ ?_
            ·exact ⟨hH197, by omega, fun h => hf3 (by omega)⟩
            ·first | (dsimp only; omega) | (show _ < _; omega)
         ·skip
          refine cond_f rfl (decide_eq_false hc195) ?_
          refine exit (thn_x (lp_x (blk_here (blk_n (thn_n (region (ops_y hH194 rfl rfl (yv_move rfl) ?_)))))))
          refine ops_y hH194 rfl rfl (yv_add rfl rfl (by omega)) ?_
          refine ops_y hH194 rfl rfl (yv_assign rfl) (ops_nil ?_)
          refine lp_n (i1 + 1, ff2) (Sub.cons rfl (Sub.cons rfl (Sub.cons rfl (Sub.cons rfl (Sub.cons rfl (Sub.nil _)))))) ?_ ?_
          ·exact ⟨hH194, by omega, fun h => hf2 (by omega)⟩
          ·first | (dsimp only; omega) | (show _ < _; omega)
       ·skip
        have hff : ff = true := hf1 (by omega)
        refine cond_f rfl (decide_eq_false hc192) ?_
        refine exit (thn_x (lp_x (blk_here (thn_n (seq (region (ops_y hH191 rfl rfl (yv_move rfl) (ops_y hH191 rfl rfl (yv_move rfl) ?_))))))))
        have hc258 : ff = true := hff
        refine guard_yes rfl rfl hc258 ?_
        refine op_fnV rfl rfl rfl hH191 (c17) (fun w259 hH260 => ?_)
        refine ops_y hH260 rfl rfl (yv_pick_t rfl hc258 rfl) ?_
        refine ops_y hH260 rfl rfl (yv_assign rfl) (ops_nil (thn_n (ret ?_)))
        refine fin (Heap.unbase hH260 hbw) (fun w' hf => (res1 rfl (show RV _ _ _ (.tmp 4) _ from rfl))) (fun w' hf => ?_)
        rfl
    ·skip
     refine cond_f rfl (decide_eq_false hc128) ?_
     refine skip (thn_n ?_)
     refine cut (S := World × List S.Pr × Value × Value × List (Nat × Nat × Nat) × List (List Int)) (fun (w0, xs, v5, v9, TT, RR) => [(5, v5), (6, (.int .i64 (S.shortestOf xs))), (9, v9), (10, (.bool false)), (4, (.bool false))]) (fun (w0, xs, v5, v9, TT, RR) w1 => Heap [base w0] w1 ∧ Below w.heap.size w w0 ∧ Rd encP 2 v5 xs w0 ∧ S.Jobs xs ∧ S.RowsOf xs.length RR ∧ Rd encS 1 v9 TT w0 ∧ TT.length = RR.length ∧ ∀ i : Nat, i < TT.length → Rd encI 1 (sv (nth TT (i : Int))) (nth RR (i : Int)) w0) ?_ ?_
     ·skip
      refine region (ops_y hH29 rfl rfl (yv_assign rfl) (ops_nil ?_))
      refine mid_n (w26, (js.take (min (js.length : Int) 3).toNat), (cutv v 2 0 (min (js.length : Int) 3).toNat), u25, [s23], [[0]]) (Sub.cons rfl (Sub.cons rfl (Sub.cons rfl (Sub.cons rfl (Sub.cons rfl (Sub.nil _)))))) ?_
      exact ⟨Heap.start w26, hH29.get (n := 3) rfl, (Rd.upto (h0.now hH29 (n := 3) rfl) (hi := (min (js.length : Int) 3).toNat) (by omega)), hjt, (by rw [show (js.take (min (js.length : Int) 3).toNat).length = 1 by omega]; exact S.rows1), (Heap.rdw T.el67_encS hH29 (n := 0) rfl), rfl, S.all1 (by show Rd encI 1 (sv s23) [0] _; rw [← hs24]; exact Heap.rdw T.el39_encI hH29 (n := 1) rfl)⟩
     ·rintro ⟨w0, xs, v5, v9, TT, RR⟩ w261 ⟨hH262, hbw, h5, hjx, hRR, h9, hTl, hel⟩
      show Holds _ _ _ _ _ [(5, v5), (6, (.int .i64 (S.shortestOf xs))), (9, v9), (10, (.bool false)), (4, (.bool false))] _ _
      refine seq (seq ?_)
      obtain ⟨ti, tk, tb, hti, htk, htb, pt, hpt, hpe⟩ := S.target hjx hRR
      have hx1 := hjx.1
      have hx3 := hRR.1
      have hR6 := hRR.2.1
      have hpw := S.pw_le xs.length
      refine region (ops_y hH262 rfl rfl (yv_assign rfl) (ops_nil (thn_n (block ?_))))
      refine loop (S := Nat × Bool) (fun (i1, ff) => [(11, (.int .i64 (i1 : Int))), (10, (.bool ff)), (5, v5), (6, (.int .i64 (S.shortestOf xs))), (9, v9)]) (fun (i1, ff) w1 => Heap [base w0] w1 ∧ i1 ≤ RR.length ∧ (ti < i1 → ff = true)) (fun (i1, ff) => RR.length - i1) (0, false) (Sub.cons rfl (Sub.cons rfl (Sub.cons rfl (Sub.cons rfl (Sub.cons rfl (Sub.nil _)))))) ?_ ?_
      ·exact ⟨hH262, by omega, fun h => by omega⟩
      ·rintro ⟨i1, ff⟩ w263 ⟨hH264, hi1, hf1⟩
       show Holds _ _ _ _ _ [(11, (.int .i64 (i1 : Int))), (10, (.bool ff)), (5, v5), (6, (.int .i64 (S.shortestOf xs))), (9, v9)] _ _
       refine seq (seq (region (ops_y hH264 rfl rfl (yv_move rfl) (ops_y hH264 rfl rfl (yv_move rfl) ?_))))
       refine ops_y hH264 rfl rfl (yv_len T.sl67 rfl (h9.now hH264 (n := 0) rfl).is) ?_
       refine ops_y hH264 rfl rfl (yv_lss rfl rfl) ?_
       refine ops_nil (thn_n ?_)
       by_cases hc265 : (i1 : Int) < (TT.length : Int)
       ·skip
        refine cond_t rfl (decide_eq_true hc265) ?_
        refine skip (thn_n (seq (block (seq (region (ops_y hH264 rfl rfl (yv_assign rfl) (ops_nil (thn_n (block ?_)))))))))
        refine loop (S := Nat × Bool) (fun (k1, ff2) => [(12, (.int .i64 (k1 : Int))), (10, (.bool ff2)), (5, v5), (6, (.int .i64 (S.shortestOf xs))), (9, v9), (11, (.int .i64 (i1 : Int)))]) (fun (k1, ff2) w1 => Heap [base w0] w1 ∧ k1 ≤ RR.length ∧ (ti < i1 ∨ (ti = i1 ∧ tk < k1) → ff2 = true)) (fun (k1, ff2) => RR.length - k1) (0, ff) (Sub.cons rfl (Sub.cons rfl (Sub.cons rfl (Sub.cons rfl (Sub.cons rfl (Sub.cons rfl (Sub.nil _))))))) ?_ ?_
        ·exact ⟨hH264, by omega, fun h => hf1 (by omega)⟩
        ·rintro ⟨k1, ff2⟩ w266 ⟨hH267, hk1, hf2⟩
         show Holds _ _ _ _ _ [(12, (.int .i64 (k1 : Int))), (10, (.bool ff2)), (5, v5), (6, (.int .i64 (S.shortestOf xs))), (9, v9), (11, (.int .i64 (i1 : Int)))] _ _
         refine seq (seq (region (ops_y hH267 rfl rfl (yv_move rfl) (ops_y hH267 rfl rfl (yv_move rfl) ?_))))
         refine ops_y hH267 rfl rfl (yv_len T.sl67 rfl (h9.now hH267 (n := 0) rfl).is) ?_
         refine ops_y hH267 rfl rfl (yv_lss rfl rfl) ?_
         refine ops_nil (thn_n ?_)
         by_cases hc268 : (k1 : Int) < (TT.length : Int)
         ·skip
          refine cond_t rfl (decide_eq_true hc268) ?_
          refine skip (thn_n (seq (block (seq (region (ops_y hH267 rfl rfl (yv_assign rfl) (ops_nil (thn_n (block ?_)))))))))
          refine loop (S := Nat × Bool) (fun (b1, ff3) => [(13, (.int .i64 (b1 : Int))), (10, (.bool ff3)), (5, v5), (6, (.int .i64 (S.shortestOf xs))), (9, v9), (11, (.int .i64 (i1 : Int))), (12, (.int .i64 (k1 : Int)))]) (fun (b1, ff3) w1 => Heap [base w0] w1 ∧ b1 ≤ S.pw xs.length ∧ ((ti < i1 ∨ (ti = i1 ∧ tk < k1)) ∨ (ti = i1 ∧ tk = k1 ∧ tb < b1) → ff3 = true)) (fun (b1, ff3) => S.pw xs.length - b1) (0, ff2) (Sub.cons rfl (Sub.cons rfl (Sub.cons rfl (Sub.cons rfl (Sub.cons rfl (Sub.cons rfl (Sub.cons rfl (Sub.nil _)))))))) ?_ ?_
          ·exact ⟨hH267, by omega, fun h => hf2 (by omega)⟩
          ·rintro ⟨b1, ff3⟩ w269 ⟨hH270, hb1, hf3⟩
           show Holds _ _ _ _ _ [(13, (.int .i64 (b1 : Int))), (10, (.bool ff3)), (5, v5), (6, (.int .i64 (S.shortestOf xs))), (9, v9), (11, (.int .i64 (i1 : Int))), (12, (.int .i64 (k1 : Int)))] _ _
           refine seq (seq (region (ops_y hH270 rfl rfl (yv_move rfl) (ops_y hH270 rfl rfl (yv_move rfl) ?_))))
           refine ops_y hH270 rfl rfl (yv_len T.sl22 rfl (h5.now hH270 (n := 0) rfl).is) ?_
           refine ops_y hH270 rfl rfl (yv_shl1 rfl rfl (by omega) (S.pw_shl (n := xs.length) hx3)) ?_
           refine ops_y hH270 rfl rfl (yv_lss rfl rfl) ?_
           refine ops_nil (thn_n ?_)
           by_cases hc271 : (b1 : Int) < (S.pw xs.length : Int)
           ·skip
            refine cond_t rfl (decide_eq_true hc271) ?_
            refine skip (thn_n (seq (block (seq ?_))))
            refine region_drawY (fun w' => Heap [base w0] w') [] T.mixed (fun w272 hr273 => ?_)
            have hH274 := hH270.redrawn hr273
            refine any_takesT [0, 1, 2, 4, 5, 6] (by kernel_rfl)  _ _ _ (by kernel_rfl) ?_
            refine qs_y rfl rfl (yv_move rfl) (qs_y rfl rfl (yv_move rfl) ?_)
            refine qs_y rfl rfl (yv_index T.sl67 rfl rfl (h9.now hH274 (n := 0) rfl).is (by omega)) ?_
            refine qs_y rfl rfl (yv_move rfl) (qs_y rfl rfl (yv_move rfl) ?_)
            refine qs_y rfl rfl (yv_index T.sl67 rfl rfl (h9.now hH274 (n := 0) rfl).is (by omega)) ?_
            refine qs_nil ?_
            refine any_takesY [3, 7] (by kernel_rfl) hH274 _ _ _ (by kernel_rfl) ?_
            refine qs_y rfl rfl (yv_load T.one39 rfl (fun _ hw => Rd.at (h9.now hw (n := 0) rfl) (i := (i1 : Int)) (by omega) (j := 0) rfl)) ?_
            refine qs_y rfl rfl (yv_load T.one39 rfl (fun _ hw => Rd.at (h9.now hw (n := 0) rfl) (i := (k1 : Int)) (by omega) (j := 0) rfl)) ?_
            refine qs_nil ?_
            obtain ⟨_, _, hb275, _⟩ := ((hel i1 (by omega)).now hH274 (n := 0) rfl).is
            obtain ⟨_, _, hb276, _⟩ := ((hel k1 (by omega)).now hH274 (n := 0) rfl).is
            refine any_takesT [8] (by kernel_rfl)  _ _ _ (by kernel_rfl) ?_
            refine qs_y rfl rfl (yv_build (v := (.agg #[(sv (nth TT (i1 : Int))), (sv (nth TT (k1 : Int))), (.slice none 0 0)])) (us := [(0, (sv (nth TT (i1 : Int)))), (1, (sv (nth TT (k1 : Int))))]) (fun a ha => by simp [ha.ev (show ev _ (.tmp 92) = some _ from rfl), ha.ev (show ev _ (.tmp 96) = some _ from rfl)]) (fun w => by rw [hb275, hb276]; kernel_rfl)) ?_
            refine qs_nil ?_
            refine any_allY [9] (by kernel_rfl) rfl ?_
            refine ⟨⟨_, rfl, ?_⟩, trivial⟩
            ·skip
             refine op_alloc (z := (.agg #[(.slice none 0 0), (.slice none 0 0), (.slice none 0 0)])) (us := [(.slice none 0 0), (.slice none 0 0), (.slice none 0 0)]) (fun _ => by kernel_rfl) rfl rfl hH274 (fun b277 w278 hH279 => ?_)
             refine ops_nil ?_
             refine ⟨fun _ _ => (hH279.sub (List.Sublist.cons _ (List.Sublist.refl _))), ?_⟩
             refine any_allY [10] (by kernel_rfl) rfl ?_
             refine ⟨⟨_, rfl, ?_⟩, trivial⟩
             ·skip
              refine op_store (n := 0) (j := 0) (us := [(sv (nth TT (i1 : Int))), (sv (nth TT (k1 : Int))), (.slice none 0 0)]) rfl rfl hH279 rfl T.sz41 rfl rfl rfl (all_one (SliceIs.one1 ((hel i1 (by omega)).now hH279 (n := 1) rfl).is) (all_one (SliceIs.one1 ((hel k1 (by omega)).now hH279 (n := 1) rfl).is) (all_one rfl rfl))) (fun w280 hH281 => ?_)
              refine ops_nil ?_
              refine ⟨fun _ _ => (hH281.sub (List.Sublist.cons _ (List.Sublist.refl _))), ?_⟩
              refine any_doneY (by kernel_rfl) ?_
              refine thn_n (seq (seq (region (ops_y hH281 rfl rfl (yv_assign rfl) (ops_nil (thn_n (block ?_)))))))
              have hH282 := ow_nil (enc := encI) 3 1 hH281
              refine loop (S := Nat × Value × Nat × Nat) (fun (j1, v_b14, lo_b14, hi_b14) => [(15, (.int .i64 (j1 : Int))), (5, v5), (6, (.int .i64 (S.shortestOf xs))), (9, v9), (10, (.bool ff3)), (11, (.int .i64 (i1 : Int))), (12, (.int .i64 (k1 : Int))), (13, (.int .i64 (b1 : Int))), (14, (.pointer (some ⟨b277, 0, none⟩)))]) (fun (j1, v_b14, lo_b14, hi_b14) w1 => Heap [ow lo_b14 hi_b14 3 1 encI v_b14 (S.bitsTo (b1 : Int) j1), bx b277 41 [(sv (nth TT (i1 : Int))), (sv (nth TT (k1 : Int))), v_b14], base w0] w1 ∧ j1 ≤ xs.length) (fun (j1, v_b14, lo_b14, hi_b14) => xs.length - j1) (0, (.slice none 0 0), w280.heap.size, w280.heap.size) (Sub.cons rfl (Sub.cons rfl (Sub.cons rfl (Sub.cons rfl (Sub.cons rfl (Sub.cons rfl (Sub.cons rfl (Sub.cons rfl (Sub.cons rfl (Sub.nil _)))))))))) ?_ ?_
              ·exact ⟨hH282, by omega⟩
              ·rintro ⟨j1, v_b14, lo_b14, hi_b14⟩ w283 ⟨hH284, hj1⟩
               show Holds _ _ _ _ _ [(15, (.int .i64 (j1 : Int))), (5, v5), (6, (.int .i64 (S.shortestOf xs))), (9, v9), (10, (.bool ff3)), (11, (.int .i64 (i1 : Int))), (12, (.int .i64 (k1 : Int))), (13, (.int .i64 (b1 : Int))), (14, (.pointer (some ⟨b277, 0, none⟩)))] _ _
               refine seq (seq (region (ops_y hH284 rfl rfl (yv_move rfl) (ops_y hH284 rfl rfl (yv_move rfl) ?_))))
               refine ops_y hH284 rfl rfl (yv_len T.sl22 rfl (h5.now hH284 (n := 2) rfl).is) ?_
               refine ops_y hH284 rfl rfl (yv_lss rfl rfl) ?_
               refine ops_nil (thn_n ?_)
               by_cases hc285 : (j1 : Int) < (xs.length : Int)
               ·skip
                refine cond_t rfl (decide_eq_true hc285) ?_
                refine skip (thn_n (seq (block ?_)))
                have hq := S.shr_bd (b := b1) (k := (j1 : Int).toNat)
                have hlb := S.bitsTo_length (b1 : Int) j1
                refine region_drawY (fun w' => Heap [bx b277 41 [(sv (nth TT (i1 : Int))), (sv (nth TT (k1 : Int))), v_b14], base w0] w') [9] T.mixed (fun w286 hr287 => ?_)
                have hH288 := hH284.redrawn hr287
                refine any_takesT [0, 2, 3, 4, 5] (by kernel_rfl)  _ _ _ (by kernel_rfl) ?_
                refine qs_y rfl rfl (yv_field T.f41_2 rfl) ?_
                refine qs_y rfl rfl (yv_move rfl) (qs_y rfl rfl (yv_move rfl) ?_)
                refine qs_y rfl rfl (yv_shr rfl rfl (by omega)) ?_
                refine qs_y rfl rfl (yv_and1 rfl rfl hq.1 (by omega)) ?_
                refine qs_nil ?_
                refine any_takesY [1] (by kernel_rfl) (hH288.sub (List.Sublist.cons _ (List.Sublist.refl _))) _ _ _ (by kernel_rfl) ?_
                refine qs_y rfl rfl (yv_load T.one39 rfl (fun _ hw => Heap.cellw hw (n := 0) rfl rfl)) ?_
                refine qs_nil ?_
                refine any_allY [6] (by kernel_rfl) rfl ?_
                refine ⟨⟨_, rfl, ?_⟩, trivial⟩
                ·skip
                 refine op_lit (us := [(0, (.int .i64 ((b1 : Int) / 2 ^ (j1 : Int).toNat % 2)))]) T.el39_encI [(b1 : Int) / 2 ^ (j1 : Int).toNat % 2] rfl (by decide) rfl (fun a ha => by simp [ha.ev (show ev _ (.tmp 109) = some _ from rfl)]) (fun w => by kernel_rfl) hH288 (fun u289 lo291 hi292 w290 hH293 => ?_)
                 refine ops_nil ?_
                 refine ⟨fun _ _ => (hH293.sub (List.Sublist.cons _ (List.Sublist.cons _ (List.Sublist.refl _)))), ?_⟩
                 refine any_allY [7] (by kernel_rfl) rfl ?_
                 refine ⟨⟨_, rfl, ?_⟩, trivial⟩
                 ·skip
                  refine op_append (n := 1) T.el39_encI rfl rfl rfl hH293 rfl (Heap.rdw T.el39_encI hH293 (n := 0) rfl) (by first | omega | (simp only [List.length_append, List.length_cons, List.length_nil]; omega)) (fun u294 lo296 hi297 w295 hH298 => ?_)
                  refine ops_nil ?_
                  refine ⟨fun _ _ => (hH298.sub (List.Sublist.cons _ (List.Sublist.cons _ (List.Sublist.refl _)))), ?_⟩
                  refine any_takesT [8] (by kernel_rfl)  _ _ _ (by kernel_rfl) ?_
                  refine qs_y rfl rfl (yv_field T.f41_2 rfl) ?_
                  refine qs_nil ?_
                  refine any_allY [9] (by kernel_rfl) rfl ?_
                  refine ⟨⟨_, rfl, ?_⟩, trivial⟩
                  ·skip
                   refine op_store (n := 2) (j := 2) (us := [u294]) rfl rfl hH298 rfl T.sz39 (SliceIs.cells (Heap.rdw T.el39_encI hH298 (n := 1) rfl).is) rfl rfl (SliceIs.one (Heap.rdw T.el39_encI hH298 (n := 1) rfl).is) (fun w299 hH300 => ?_)
                   refine ops_nil ?_
                   refine ⟨(fun h => by cases h), ?_⟩
                   refine any_doneY (by kernel_rfl) ?_
                   refine blk_n (thn_n (region (ops_y hH300 rfl rfl (yv_move rfl) ?_)))
                   refine ops_y hH300 rfl rfl (yv_add rfl rfl (by omega)) ?_
                   refine ops_y hH300 rfl rfl (yv_assign rfl) (ops_nil ?_)
                   have hH301 := (hH300.sub (List.Sublist.cons _ (List.Sublist.refl _)))
                   refine lp_n (j1 + 1, u294, lo296, hi297) (Sub.cons rfl (Sub.cons rfl (Sub.cons rfl (Sub.cons rfl (Sub.cons rfl (Sub.cons rfl (Sub.cons rfl (Sub.cons rfl (Sub.cons rfl (Sub.nil _)))))))))) ?_ ?_
                   ·exact ⟨(Heap.recast (n := 0) hH301 rfl (rfl)), by omega⟩
                   ·first | (dsimp only; omega) | (show _ < _; omega)
               ·skip
                refine cond_f rfl (decide_eq_false hc285) ?_
                refine exit (thn_x (lp_x (blk_here (thn_n (seq ?_)))))
                by_cases hc302 : ∃ p, S.SolP xs (nth RR (i1 : Int)) (nth RR (k1 : Int)) (S.bitsTo (b1 : Int) xs.length) p
                ·skip
                 have hO := S.rows_ord hRR (i := i1) (k := k1) (by omega) (by omega) (b1 : Int)
                 have hco := S.checkOrder_iff.2 ⟨hjx, hO⟩
                 have hlo1 : (nth RR (i1 : Int)).length = xs.length := hO.1
                 have hlo2 : (nth RR (k1 : Int)).length = xs.length := hO.2.1
                 have hlo3 := S.bitsTo_length (b1 : Int) xs.length
                 obtain ⟨p, hs⟩ := ‹∃ p, S.SolP xs (nth RR (i1 : Int)) (nth RR (k1 : Int)) (S.bitsTo (b1 : Int) xs.length) p›
                 have hpyy := (S.play_yes hjx hco hs).1
                 have hck := hs.check hjx hO
                 have hse := S.shortest_le_end hjx (hs.allT hjx) hs.1 (hs.right hjx hO)
                 have hpn := hs.1
                 have heq : (ti = i1 ∧ tk = k1 ∧ tb = b1) → S.endOf xs p = S.shortestOf xs := fun ⟨a, b, c⟩ => by subst a b c; rw [S.sol_same hjx hs hpt]; exact hpe
                 have hj2 : j1 = xs.length := by omega
                 have hH303 := Heap.recast (n := 0) hH284 rfl (show _ = (S.bitsTo (b1 : Int) xs.length) from by rw [hj2])
                 refine region (ops_y hH303 rfl rfl (yv_move rfl) ?_)
                 refine ops_y hH303 rfl rfl (yv_loadA (cs := [(sv (nth TT (i1 : Int))), (sv (nth TT (k1 : Int))), v_b14]) T.agg41 rfl rfl (fun _ hw => Heap.cellsw hw (n := 1) rfl (k := 0) rfl)) ?_
                 have hev306 : Fn Try.prog 32 [v5, (.agg #[(sv (nth TT (i1 : Int))), (sv (nth TT (k1 : Int))), v_b14])].toArray _ _ := c32 (h5.now hH303 (n := 2) rfl) ((hel i1 (by omega)).now hH303 (n := 2) rfl) ((hel k1 (by omega)).now hH303 (n := 2) rfl) (Heap.rdw T.el39_encI hH303 (n := 0) rfl) (by omega) (by omega) (by omega) (by omega)
                 simp only [hpyy] at hev306
                 refine op_fn rfl rfl rfl hH303 (hev306) (fun u307 w304 lo308 hi309 hH305 hv310 => ?_)
                 obtain ⟨p312, hu, -⟩ := hv310
                 subst hu
                 have hH311 := Heap.tup2 hH305 (n := 0) rfl
                 refine ops_y hH311 rfl rfl (yv_move rfl) (ops_y hH311 rfl rfl (yv_extract rfl rfl) (ops_y hH311 rfl rfl (yv_extract rfl rfl) (ops_y hH311 rfl rfl (yv_assign rfl) (ops_y hH311 rfl rfl (yv_assign rfl) (ops_nil (thn_n (seq (seq (region ?_)))))))))
                 refine ops_y hH311 rfl rfl (yv_move rfl) ?_
                 refine ops_y hH311 rfl rfl (yv_castB rfl (yv_eql rfl rfl)) ?_
                 refine ops_nil (thn_n ?_)
                 refine cond_f rfl rfl ?_
                 refine skip (thn_n (seq (region (ops_y hH311 rfl rfl (yv_move rfl) (ops_y hH311 rfl rfl (yv_move rfl) ?_)))))
                 have hev315 : Fn Try.prog 19 [v5, p312].toArray _ _ := c19 (h5.now hH311 (n := 3) rfl) (Heap.rdw T.el23_encP hH311 (n := 0) rfl) (by omega) (by omega)
                 simp only [hck] at hev315
                 refine op_fnV rfl rfl rfl hH311 (hev315) (fun w313 hH314 => ?_)
                 refine ops_y hH314 rfl rfl (yv_move rfl) (ops_y hH314 rfl rfl (yv_extract rfl rfl) (ops_y hH314 rfl rfl (yv_extract rfl rfl) (ops_y hH314 rfl rfl (yv_assign rfl) (ops_y hH314 rfl rfl (yv_assign rfl) (ops_nil (thn_n (seq (seq (region ?_)))))))))
                 refine ops_y hH314 rfl rfl (yv_move rfl) ?_
                 refine ops_y hH314 rfl rfl (yv_castB rfl (yv_neq rfl rfl)) ?_
                 refine ops_y hH314 rfl rfl (yv_move rfl) (guard_yes rfl rfl rfl (ops_y hH314 rfl rfl (yv_move rfl) (guard_yes rfl rfl rfl ?_)))
                 refine ops_y hH314 rfl rfl (yv_castB rfl (yv_neq rfl rfl)) ?_
                 refine ops_y hH314 rfl rfl (yv_pick_f rfl rfl rfl) ?_
                 refine ops_y hH314 rfl rfl (yv_move rfl) (guard_yes rfl rfl rfl (ops_y hH314 rfl rfl (yv_move rfl) (guard_yes rfl rfl rfl (ops_y hH314 rfl rfl (yv_move rfl) (guard_yes rfl rfl rfl ?_)))))
                 refine ops_y hH314 rfl rfl (yv_lss rfl rfl) ?_
                 refine ops_y hH314 rfl rfl (yv_pick_f rfl rfl rfl) ?_
                 refine ops_nil (thn_n ?_)
                 have hc316 : ¬ ((S.endOf xs p) < (S.shortestOf xs)) := by omega
                 refine cond_f rfl (decide_eq_false hc316) ?_
                 refine skip (thn_n (region (ops_y hH314 rfl rfl (yv_move rfl) (ops_y hH314 rfl rfl (yv_move rfl) ?_))))
                 by_cases hc317 : ff3 = true
                 ·skip
                  refine guard_no rfl rfl hc317 rfl ?_
                  refine guard_no rfl rfl hc317 rfl ?_
                  refine guard_no rfl rfl hc317 rfl ?_
                  refine ops_y hH314 rfl rfl (yv_pick_t rfl hc317 rfl) ?_
                  refine ops_y hH314 rfl rfl (yv_assign rfl) (ops_nil (blk_n (thn_n (region (ops_y hH314 rfl rfl (yv_move rfl) ?_)))))
                  refine ops_y hH314 rfl rfl (yv_add rfl rfl (by omega)) ?_
                  refine ops_y hH314 rfl rfl (yv_assign rfl) (ops_nil ?_)
                  have hH318 := (hH314.sub (List.Sublist.cons _ (List.Sublist.cons _ (List.Sublist.cons _ (List.Sublist.refl _)))))
                  refine lp_n (b1 + 1, true) (Sub.cons rfl (Sub.cons rfl (Sub.cons rfl (Sub.cons rfl (Sub.cons rfl (Sub.cons rfl (Sub.cons rfl (Sub.nil _)))))))) ?_ ?_
                  ·exact ⟨hH318, by omega, fun _ => rfl⟩
                  ·first | (dsimp only; omega) | (show _ < _; omega)
                 ·skip
                  refine guard_yes rfl rfl (Bool.eq_false_iff.2 hc317) ?_
                  refine ops_y hH314 rfl rfl (yv_move rfl) ?_
                  refine guard_yes rfl rfl (Bool.eq_false_iff.2 hc317) ?_
                  refine ops_y hH314 rfl rfl (yv_move rfl) ?_
                  refine guard_yes rfl rfl (Bool.eq_false_iff.2 hc317) ?_
                  refine ops_y hH314 rfl rfl (yv_eql rfl rfl) ?_
                  refine ops_y hH314 rfl rfl (yv_pick_f rfl (Bool.eq_false_iff.2 hc317) rfl) ?_
                  refine ops_y hH314 rfl rfl (yv_assign rfl) (ops_nil (blk_n (thn_n (region (ops_y hH314 rfl rfl (yv_move rfl) ?_)))))
                  refine ops_y hH314 rfl rfl (yv_add rfl rfl (by omega)) ?_
                  refine ops_y hH314 rfl rfl (yv_assign rfl) (ops_nil ?_)
                  have hH319 := (hH314.sub (List.Sublist.cons _ (List.Sublist.cons _ (List.Sublist.cons _ (List.Sublist.refl _)))))
                  refine lp_n (b1 + 1, decide ((S.endOf xs p) = (S.shortestOf xs))) (Sub.cons rfl (Sub.cons rfl (Sub.cons rfl (Sub.cons rfl (Sub.cons rfl (Sub.cons rfl (Sub.cons rfl (Sub.nil _)))))))) ?_ ?_
                  ·exact ⟨hH319, by omega, fun h => decide_eq_true (heq (Classical.byContradiction fun hc => absurd (hf3 (by omega)) ‹¬ ff3 = true›))⟩
                  ·first | (dsimp only; omega) | (show _ < _; omega)
                ·skip
                 have hO := S.rows_ord hRR (i := i1) (k := k1) (by omega) (by omega) (b1 : Int)
                 have hco := S.checkOrder_iff.2 ⟨hjx, hO⟩
                 have hlo1 : (nth RR (i1 : Int)).length = xs.length := hO.1
                 have hlo2 : (nth RR (k1 : Int)).length = xs.length := hO.2.1
                 have hlo3 := S.bitsTo_length (b1 : Int) xs.length
                 have hns : ¬ ∃ p, S.SolP xs (nth RR (i1 : Int)) (nth RR (k1 : Int)) (S.bitsTo (b1 : Int) xs.length) p := ‹_›
                 have hpy := (S.play_no hco hns).1
                 have hnt : ¬ (ti = i1 ∧ tk = k1 ∧ tb = b1) := fun ⟨a, b, c⟩ => hns ⟨pt, by subst a b c; exact hpt⟩
                 have hj2 : j1 = xs.length := by omega
                 have hH320 := Heap.recast (n := 0) hH284 rfl (show _ = (S.bitsTo (b1 : Int) xs.length) from by rw [hj2])
                 refine region (ops_y hH320 rfl rfl (yv_move rfl) ?_)
                 refine ops_y hH320 rfl rfl (yv_loadA (cs := [(sv (nth TT (i1 : Int))), (sv (nth TT (k1 : Int))), v_b14]) T.agg41 rfl rfl (fun _ hw => Heap.cellsw hw (n := 1) rfl (k := 0) rfl)) ?_
                 have hev323 : Fn Try.prog 32 [v5, (.agg #[(sv (nth TT (i1 : Int))), (sv (nth TT (k1 : Int))), v_b14])].toArray _ _ := c32 (h5.now hH320 (n := 2) rfl) ((hel i1 (by omega)).now hH320 (n := 2) rfl) ((hel k1 (by omega)).now hH320 (n := 2) rfl) (Heap.rdw T.el39_encI hH320 (n := 0) rfl) (by omega) (by omega) (by omega) (by omega)
                 simp only [hpy] at hev323
                 refine op_fn rfl rfl rfl hH320 (hev323) (fun u324 w321 lo325 hi326 hH322 hv327 => ?_)
                 obtain ⟨p329, hu, -⟩ := hv327
                 subst hu
                 have hH328 := Heap.tup2 hH322 (n := 0) rfl
                 refine ops_y hH328 rfl rfl (yv_move rfl) (ops_y hH328 rfl rfl (yv_extract rfl rfl) (ops_y hH328 rfl rfl (yv_extract rfl rfl) (ops_y hH328 rfl rfl (yv_assign rfl) (ops_y hH328 rfl rfl (yv_assign rfl) (ops_nil (thn_n (seq (seq (region ?_)))))))))
                 refine ops_y hH328 rfl rfl (yv_move rfl) ?_
                 refine ops_y hH328 rfl rfl (yv_castB rfl (yv_eql rfl rfl)) ?_
                 refine ops_nil (thn_n ?_)
                 refine cond_t rfl rfl ?_
                 refine exit (thn_x (blk_here (thn_n (region (ops_y hH328 rfl rfl (yv_move rfl) ?_)))))
                 refine ops_y hH328 rfl rfl (yv_add rfl rfl (by omega)) ?_
                 refine ops_y hH328 rfl rfl (yv_assign rfl) (ops_nil ?_)
                 have hH330 := (hH328.sub (List.Sublist.cons _ (List.Sublist.cons _ (List.Sublist.cons _ (List.Sublist.refl _)))))
                 refine lp_n (b1 + 1, ff3) (Sub.cons rfl (Sub.cons rfl (Sub.cons rfl (Sub.cons rfl (Sub.cons rfl (Sub.cons rfl (Sub.cons rfl (Sub.nil _)))))))) ?_ ?_
                 ·exact ⟨hH330, by omega, fun h => hf3 (by omega)⟩
                 ·first | (dsimp only; omega) | (show _ < _; omega)
           ·skip
            refine cond_f rfl (decide_eq_false hc271) ?_
            refine exit (thn_x (lp_x (blk_here (blk_n (thn_n (region (ops_y hH270 rfl rfl (yv_move rfl) ?_)))))))
            refine ops_y hH270 rfl rfl (yv_add rfl rfl (by omega)) ?_
            refine ops_y hH270 rfl rfl (yv_assign rfl) (ops_nil ?_)
            refine lp_n (k1 + 1, ff3) (Sub.cons rfl (Sub.cons rfl (Sub.cons rfl (Sub.cons rfl (Sub.cons rfl (Sub.cons rfl (Sub.nil _))))))) ?_ ?_
            ·exact ⟨hH270, by omega, fun h => hf3 (by omega)⟩
            ·first | (dsimp only; omega) | (show _ < _; omega)
         ·skip
          refine cond_f rfl (decide_eq_false hc268) ?_
          refine exit (thn_x (lp_x (blk_here (blk_n (thn_n (region (ops_y hH267 rfl rfl (yv_move rfl) ?_)))))))
          refine ops_y hH267 rfl rfl (yv_add rfl rfl (by omega)) ?_
          refine ops_y hH267 rfl rfl (yv_assign rfl) (ops_nil ?_)
          refine lp_n (i1 + 1, ff2) (Sub.cons rfl (Sub.cons rfl (Sub.cons rfl (Sub.cons rfl (Sub.cons rfl (Sub.nil _)))))) ?_ ?_
          ·exact ⟨hH267, by omega, fun h => hf2 (by omega)⟩
          ·first | (dsimp only; omega) | (show _ < _; omega)
       ·skip
        have hff : ff = true := hf1 (by omega)
        refine cond_f rfl (decide_eq_false hc265) ?_
        refine exit (thn_x (lp_x (blk_here (thn_n (seq (region (ops_y hH264 rfl rfl (yv_move rfl) (ops_y hH264 rfl rfl (yv_move rfl) ?_))))))))
        have hc331 : ff = true := hff
        refine guard_yes rfl rfl hc331 ?_
        refine op_fnV rfl rfl rfl hH264 (c17) (fun w332 hH333 => ?_)
        refine ops_y hH333 rfl rfl (yv_pick_t rfl hc331 rfl) ?_
        refine ops_y hH333 rfl rfl (yv_assign rfl) (ops_nil (thn_n (ret ?_)))
        refine fin (Heap.unbase hH333 hbw) (fun w' hf => (res1 rfl (show RV _ _ _ (.tmp 4) _ from rfl))) (fun w' hf => ?_)
        rfl
  ·skip
   have h3f : ¬ tr = true := by rw [(Bool.eq_false_iff.2 hc4)]; simp
   refine cond_f rfl (Bool.eq_false_iff.2 hc4) ?_
   refine skip (thn_n (seq ?_))
   have hxl : (js.take (min (js.length : Int) 2).toNat).length = (min (js.length : Int) 2).toNat := by rw [List.length_take]; omega
   have hjt : S.Jobs (js.take (min (js.length : Int) 2).toNat) := S.jobs_take hj (by omega) (by omega)
   refine region (ops_y hH3 rfl rfl (yv_move rfl) ?_)
   refine op_fn rfl rfl rfl hH3 (c42 (Rd.upto (h0.now hH3 (n := 0) rfl) (hi := (min (js.length : Int) 2).toNat) (by omega)) hjt) (fun u336 w334 lo337 hi338 hH335 hv339 => ?_)
   obtain ⟨q340, p341, hu, ho343, hp344⟩ := hv339
   subst hu
   have hH342 := Heap.toOwAny hH335 (n := 0) rfl (fun w' h => by obtain ⟨_, ys, e, h, _⟩ := h; cases e; exact ⟨ys, h⟩) ho343
   refine ops_y hH342 rfl rfl (yv_move rfl) (ops_y hH342 rfl rfl (yv_extract rfl rfl) (ops_y hH342 rfl rfl (yv_extract rfl rfl) (ops_y hH342 rfl rfl (yv_extract rfl rfl) (ops_y hH342 rfl rfl (yv_assign rfl) (ops_y hH342 rfl rfl (yv_assign rfl) (ops_y hH342 rfl rfl (yv_assign rfl) (ops_nil (thn_n (seq ?_)))))))))
   refine seq (region (ops_y hH342 rfl rfl (yv_move rfl) ?_))
   refine ops_y hH342 rfl rfl (yv_not rfl) ?_
   refine ops_nil (thn_n ?_)
   refine cond_f rfl rfl ?_
   refine skip (thn_n (seq (region ?_)))
   refine op_lit (us := [(0, (.int .i64 0))]) T.el39_encI [0] rfl (by decide) rfl (fun a ha => by simp [ha.ev (show ev _ (.const (.int .i64 0)) = some _ from rfl)]) (fun w => by kernel_rfl) hH342 (fun u345 lo347 hi348 w346 hH349 => ?_)
   refine op_fnV rfl rfl rfl hH349 (c50) (fun w350 hH351 => ?_)
   obtain ⟨s352, hs353⟩ := Heap.sv hH351 (n := 0) rfl (by simp)
   refine op_lit (us := [(0, u345)]) T.el67_encS [s352] rfl (by decide) rfl (fun a ha => by simp [ha.ev (show ev _ (.tmp 44) = some _ from rfl)]) (fun w => by rw [hs353]; kernel_rfl) hH351 (fun u354 lo356 hi357 w355 hH358 => ?_)
   refine ops_y hH358 rfl rfl (yv_assign rfl) (ops_nil (thn_n (seq (seq (region (ops_y hH358 rfl rfl (yv_move rfl) ?_))))))
   refine ops_y hH358 rfl rfl (yv_len T.sl22 rfl (Rd.upto (h0.now hH358 (n := 3) rfl) (hi := (min (js.length : Int) 2).toNat) (by omega)).is) ?_
   refine ops_y hH358 rfl rfl (yv_eql rfl rfl) ?_
   refine ops_nil (thn_n ?_)
   by_cases hc359 : ((js.take (min (js.length : Int) 2).toNat).length : Int) = 2
   ·skip
    have hx2 : (js.take (min (js.length : Int) 2).toNat).length = 2 := by omega
    refine cond_t rfl (decide_eq_true hc359) ?_
    refine region ?_
    refine op_lit (us := [(0, (.int .i64 0)), (1, (.int .i64 1))]) T.el39_encI [0, 1] rfl (by decide) rfl (fun a ha => by simp [ha.ev (show ev _ (.const (.int .i64 0)) = some _ from rfl), ha.ev (show ev _ (.const (.int .i64 1)) = some _ from rfl)]) (fun w => by kernel_rfl) hH358 (fun u360 lo362 hi363 w361 hH364 => ?_)
    refine op_fnV rfl rfl rfl hH364 (c50) (fun w365 hH366 => ?_)
    refine op_lit (us := [(0, (.int .i64 1)), (1, (.int .i64 0))]) T.el39_encI [1, 0] rfl (by decide) rfl (fun a ha => by simp [ha.ev (show ev _ (.const (.int .i64 1)) = some _ from rfl), ha.ev (show ev _ (.const (.int .i64 0)) = some _ from rfl)]) (fun w => by kernel_rfl) hH366 (fun u367 lo369 hi370 w368 hH371 => ?_)
    refine op_fnV rfl rfl rfl hH371 (c50) (fun w372 hH373 => ?_)
    obtain ⟨s374, hs375⟩ := Heap.sv hH373 (n := 1) rfl (by simp)
    obtain ⟨s376, hs377⟩ := Heap.sv hH373 (n := 0) rfl (by simp)
    refine op_lit (us := [(0, u360), (1, u367)]) T.el67_encS [s374, s376] rfl (by decide) rfl (fun a ha => by simp [ha.ev (show ev _ (.tmp 50) = some _ from rfl), ha.ev (show ev _ (.tmp 52) = some _ from rfl)]) (fun w => by rw [hs375, hs377]; kernel_rfl) hH373 (fun u378 lo380 hi381 w379 hH382 => ?_)
    refine ops_y hH382 rfl rfl (yv_assign rfl) (ops_nil (thn_n (seq (seq (region (ops_y hH382 rfl rfl (yv_move rfl) ?_))))))
    refine ops_y hH382 rfl rfl (yv_len T.sl22 rfl (Rd.upto (h0.now hH382 (n := 6) rfl) (hi := (min (js.length : Int) 2).toNat) (by omega)).is) ?_
    refine ops_y hH382 rfl rfl (yv_eql rfl rfl) ?_
    refine ops_nil (thn_n ?_)
    have hc383 : ¬ (((js.take (min (js.length : Int) 2).toNat).length : Int) = 3) := by omega
    refine cond_f rfl (decide_eq_false hc383) ?_
    refine skip (thn_n ?_)
    refine cut (S := World × List S.Pr × Value × Value × List (Nat × Nat × Nat) × List (List Int)) (fun (w0, xs, v5, v9, TT, RR) => [(5, v5), (6, (.int .i64 (S.shortestOf xs))), (9, v9), (10, (.bool false)), (4, (.bool false))]) (fun (w0, xs, v5, v9, TT, RR) w1 => Heap [base w0] w1 ∧ Below w.heap.size w w0 ∧ Rd encP 2 v5 xs w0 ∧ S.Jobs xs ∧ S.RowsOf xs.length RR ∧ Rd encS 1 v9 TT w0 ∧ TT.length = RR.length ∧ ∀ i : Nat, i < TT.length → Rd encI 1 (sv (nth TT (i : Int))) (nth RR (i : Int)) w0) ?_ ?_
    ·skip
     refine region (ops_y hH382 rfl rfl (yv_assign rfl) (ops_nil ?_))
     refine mid_n (w379, (js.take (min (js.length : Int) 2).toNat), (cutv v 2 0 (min (js.length : Int) 2).toNat), u378, [s374, s376], [[0, 1], [1, 0]]) (Sub.cons rfl (Sub.cons rfl (Sub.cons rfl (Sub.cons rfl (Sub.cons rfl (Sub.nil _)))))) ?_
     exact ⟨Heap.start w379, hH382.get (n := 6) rfl, (Rd.upto (h0.now hH382 (n := 6) rfl) (hi := (min (js.length : Int) 2).toNat) (by omega)), hjt, (by rw [show (js.take (min (js.length : Int) 2).toNat).length = 2 by omega]; exact S.rows2), (Heap.rdw T.el67_encS hH382 (n := 0) rfl), rfl, S.all2 (by show Rd encI 1 (sv s374) [0, 1] _; rw [← hs375]; exact Heap.rdw T.el39_encI hH382 (n := 2) rfl) (by show Rd encI 1 (sv s376) [1, 0] _; rw [← hs377]; exact Heap.rdw T.el39_encI hH382 (n := 1) rfl)⟩
    ·rintro ⟨w0, xs, v5, v9, TT, RR⟩ w384 ⟨hH385, hbw, h5, hjx, hRR, h9, hTl, hel⟩
     show Holds _ _ _ _ _ [(5, v5), (6, (.int .i64 (S.shortestOf xs))), (9, v9), (10, (.bool false)), (4, (.bool false))] _ _
     refine seq (seq ?_)
     obtain ⟨ti, tk, tb, hti, htk, htb, pt, hpt, hpe⟩ := S.target hjx hRR
     have hx1 := hjx.1
     have hx3 := hRR.1
     have hR6 := hRR.2.1
     have hpw := S.pw_le xs.length
     refine region (ops_y hH385 rfl rfl (yv_assign rfl) (ops_nil (thn_n (block ?_))))
     refine loop (S := Nat × Bool) (fun (i1, ff) => [(11, (.int .i64 (i1 : Int))), (10, (.bool ff)), (5, v5), (6, (.int .i64 (S.shortestOf xs))), (9, v9)]) (fun (i1, ff) w1 => Heap [base w0] w1 ∧ i1 ≤ RR.length ∧ (ti < i1 → ff = true)) (fun (i1, ff) => RR.length - i1) (0, false) (Sub.cons rfl (Sub.cons rfl (Sub.cons rfl (Sub.cons rfl (Sub.cons rfl (Sub.nil _)))))) ?_ ?_
     ·exact ⟨hH385, by omega, fun h => by omega⟩
     ·rintro ⟨i1, ff⟩ w386 ⟨hH387, hi1, hf1⟩
      show Holds _ _ _ _ _ [(11, (.int .i64 (i1 : Int))), (10, (.bool ff)), (5, v5), (6, (.int .i64 (S.shortestOf xs))), (9, v9)] _ _
      refine seq (seq (region (ops_y hH387 rfl rfl (yv_move rfl) (ops_y hH387 rfl rfl (yv_move rfl) ?_))))
      refine ops_y hH387 rfl rfl (yv_len T.sl67 rfl (h9.now hH387 (n := 0) rfl).is) ?_
      refine ops_y hH387 rfl rfl (yv_lss rfl rfl) ?_
      refine ops_nil (thn_n ?_)
      by_cases hc388 : (i1 : Int) < (TT.length : Int)
      ·skip
       refine cond_t rfl (decide_eq_true hc388) ?_
       refine skip (thn_n (seq (block (seq (region (ops_y hH387 rfl rfl (yv_assign rfl) (ops_nil (thn_n (block ?_)))))))))
       refine loop (S := Nat × Bool) (fun (k1, ff2) => [(12, (.int .i64 (k1 : Int))), (10, (.bool ff2)), (5, v5), (6, (.int .i64 (S.shortestOf xs))), (9, v9), (11, (.int .i64 (i1 : Int)))]) (fun (k1, ff2) w1 => Heap [base w0] w1 ∧ k1 ≤ RR.length ∧ (ti < i1 ∨ (ti = i1 ∧ tk < k1) → ff2 = true)) (fun (k1, ff2) => RR.length - k1) (0, ff) (Sub.cons rfl (Sub.cons rfl (Sub.cons rfl (Sub.cons rfl (Sub.cons rfl (Sub.cons rfl (Sub.nil _))))))) ?_ ?_
       ·exact ⟨hH387, by omega, fun h => hf1 (by omega)⟩
       ·rintro ⟨k1, ff2⟩ w389 ⟨hH390, hk1, hf2⟩
        show Holds _ _ _ _ _ [(12, (.int .i64 (k1 : Int))), (10, (.bool ff2)), (5, v5), (6, (.int .i64 (S.shortestOf xs))), (9, v9), (11, (.int .i64 (i1 : Int)))] _ _
        refine seq (seq (region (ops_y hH390 rfl rfl (yv_move rfl) (ops_y hH390 rfl rfl (yv_move rfl) ?_))))
        refine ops_y hH390 rfl rfl (yv_len T.sl67 rfl (h9.now hH390 (n := 0) rfl).is) ?_
        refine ops_y hH390 rfl rfl (yv_lss rfl rfl) ?_
        refine ops_nil (thn_n ?_)
        by_cases hc391 : (k1 : Int) < (TT.length : Int)
        ·skip
         refine cond_t rfl (decide_eq_true hc391) ?_
         refine skip (thn_n (seq (block (seq (region (ops_y hH390 rfl rfl (yv_assign rfl) (ops_nil (thn_n (block ?_)))))))))
         refine loop (S := Nat × Bool) (fun (b1, ff3) => [(13, (.int .i64 (b1 : Int))), (10, (.bool ff3)), (5, v5), (6, (.int .i64 (S.shortestOf xs))), (9, v9), (11, (.int .i64 (i1 : Int))), (12, (.int .i64 (k1 : Int)))]) (fun (b1, ff3) w1 => Heap [base w0] w1 ∧ b1 ≤ S.pw xs.length ∧ ((ti < i1 ∨ (ti = i1 ∧ tk < k1)) ∨ (ti = i1 ∧ tk = k1 ∧ tb < b1) → ff3 = true)) (fun (b1, ff3) => S.pw xs.length - b1) (0, ff2) (Sub.cons rfl (Sub.cons rfl (Sub.cons rfl (Sub.cons rfl (Sub.cons rfl (Sub.cons rfl (Sub.cons rfl (Sub.nil _)))))))) ?_ ?_
         ·exact ⟨hH390, by omega, fun h => hf2 (by omega)⟩
         ·rintro ⟨b1, ff3⟩ w392 ⟨hH393, hb1, hf3⟩
          show Holds _ _ _ _ _ [(13, (.int .i64 (b1 : Int))), (10, (.bool ff3)), (5, v5), (6, (.int .i64 (S.shortestOf xs))), (9, v9), (11, (.int .i64 (i1 : Int))), (12, (.int .i64 (k1 : Int)))] _ _
          refine seq (seq (region (ops_y hH393 rfl rfl (yv_move rfl) (ops_y hH393 rfl rfl (yv_move rfl) ?_))))
          refine ops_y hH393 rfl rfl (yv_len T.sl22 rfl (h5.now hH393 (n := 0) rfl).is) ?_
          refine ops_y hH393 rfl rfl (yv_shl1 rfl rfl (by omega) (S.pw_shl (n := xs.length) hx3)) ?_
          refine ops_y hH393 rfl rfl (yv_lss rfl rfl) ?_
          refine ops_nil (thn_n ?_)
          by_cases hc394 : (b1 : Int) < (S.pw xs.length : Int)
          ·skip
           refine cond_t rfl (decide_eq_true hc394) ?_
           refine skip (thn_n (seq (block (seq ?_))))
           refine region_drawY (fun w' => Heap [base w0] w') [] T.mixed (fun w395 hr396 => ?_)
           have hH397 := hH393.redrawn hr396
           refine any_takesT [0, 1, 2, 4, 5, 6] (by kernel_rfl)  _ _ _ (by kernel_rfl) ?_
           refine qs_y rfl rfl (yv_move rfl) (qs_y rfl rfl (yv_move rfl) ?_)
           refine qs_y rfl rfl (yv_index T.sl67 rfl rfl (h9.now hH397 (n := 0) rfl).is (by omega)) ?_
           refine qs_y rfl rfl (yv_move rfl) (qs_y rfl rfl (yv_move rfl) ?_)
           refine qs_y rfl rfl (yv_index T.sl67 rfl rfl (h9.now hH397 (n := 0) rfl).is (by omega)) ?_
           refine qs_nil ?_
           refine any_takesY [3, 7] (by kernel_rfl) hH397 _ _ _ (by kernel_rfl) ?_
           refine qs_y rfl rfl (yv_load T.one39 rfl (fun _ hw => Rd.at (h9.now hw (n := 0) rfl) (i := (i1 : Int)) (by omega) (j := 0) rfl)) ?_
           refine qs_y rfl rfl (yv_load T.one39 rfl (fun _ hw => Rd.at (h9.now hw (n := 0) rfl) (i := (k1 : Int)) (by omega) (j := 0) rfl)) ?_
           refine qs_nil ?_
           obtain ⟨_, _, hb398, _⟩ := ((hel i1 (by omega)).now hH397 (n := 0) rfl).is
           obtain ⟨_, _, hb399, _⟩ := ((hel k1 (by omega)).now hH397 (n := 0) rfl).is
           refine any_takesT [8] (by kernel_rfl)  _ _ _ (by kernel_rfl) ?_
           refine qs_y rfl rfl (yv_build (v := (.agg #[(sv (nth TT (i1 : Int))), (sv (nth TT (k1 : Int))), (.slice none 0 0)])) (us := [(0, (sv (nth TT (i1 : Int)))), (1, (sv (nth TT (k1 : Int))))]) (fun a ha => by simp [ha.ev (show ev _ (.tmp 92) = some _ from rfl), ha.ev (show ev _ (.tmp 96) = some _ from rfl)]) (fun w => by rw [hb398, hb399]; kernel_rfl)) ?_
           refine qs_nil ?_
           refine any_allY [9] (by kernel_rfl) rfl ?_
           refine ⟨⟨_, rfl, ?_⟩, trivial⟩
           ·skip
            refine op_alloc (z := (.agg #[(.slice none 0 0), (.slice none 0 0), (.slice none 0 0)])) (us := [(.slice none 0 0), (.slice none 0 0), (.slice none 0 0)]) (fun _ => by kernel_rfl) rfl rfl hH397 (fun b400 w401 hH402 => ?_)
            refine ops_nil ?_
            refine ⟨fun _ _ => (hH402.sub (List.Sublist.cons _ (List.Sublist.refl _))), ?_⟩
            refine any_allY [10] (by kernel_rfl) rfl ?_
            refine ⟨⟨_, rfl, ?_⟩, trivial⟩
            ·skip
             refine op_store (n := 0) (j := 0) (us := [(sv (nth TT (i1 : Int))), (sv (nth TT (k1 : Int))), (.slice none 0 0)]) rfl rfl hH402 rfl T.sz41 rfl rfl rfl (all_one (SliceIs.one1 ((hel i1 (by omega)).now hH402 (n := 1) rfl).is) (all_one (SliceIs.one1 ((hel k1 (by omega)).now hH402 (n := 1) rfl).is) (all_one rfl rfl))) (fun w403 hH404 => ?_)
             refine ops_nil ?_
             refine ⟨fun _ _ => (hH404.sub (List.Sublist.cons _ (List.Sublist.refl _))), ?_⟩
             refine any_doneY (by kernel_rfl) ?_
             refine thn_n (seq (seq (region (ops_y hH404 rfl rfl (yv_assign rfl) (ops_nil (thn_n (block ?_)))))))
             have hH405 := ow_nil (enc := encI) 3 1 hH404
             refine loop (S := Nat × Value × Nat × Nat) (fun (j1, v_b14, lo_b14, hi_b14) => [(15, (.int .i64 (j1 : Int))), (5, v5), (6, (.int .i64 (S.shortestOf xs))), (9, v9), (10, (.bool ff3)), (11, (.int .i64 (i1 : Int))), (12, (.int .i64 (k1 : Int))), (13, (.int .i64 (b1 : Int))), (14, (.pointer (some ⟨b400, 0, none⟩)))]) (fun (j1, v_b14, lo_b14, hi_b14) w1 => Heap [ow lo_b14 hi_b14 3 1 encI v_b14 (S.bitsTo (b1 : Int) j1), bx b400 41 [(sv (nth TT (i1 : Int))), (sv (nth TT (k1 : Int))), v_b14], base w0] w1 ∧ j1 ≤ xs.length) (fun (j1, v_b14, lo_b14, hi_b14) => xs.length - j1) (0, (.slice none 0 0), w403.heap.size, w403.heap.size) (Sub.cons rfl (Sub.cons rfl (Sub.cons rfl (Sub.cons rfl (Sub.cons rfl (Sub.cons rfl (Sub.cons rfl (Sub.cons rfl (Sub.cons rfl (Sub.nil _)))))))))) ?_ ?_
             ·exact ⟨hH405, by omega⟩
             ·rintro ⟨j1, v_b14, lo_b14, hi_b14⟩ w406 ⟨hH407, hj1⟩
              show Holds _ _ _ _ _ [(15, (.int .i64 (j1 : Int))), (5, v5), (6, (.int .i64 (S.shortestOf xs))), (9, v9), (10, (.bool ff3)), (11, (.int .i64 (i1 : Int))), (12, (.int .i64 (k1 : Int))), (13, (.int .i64 (b1 : Int))), (14, (.pointer (some ⟨b400, 0, none⟩)))] _ _
              refine seq (seq (region (ops_y hH407 rfl rfl (yv_move rfl) (ops_y hH407 rfl rfl (yv_move rfl) ?_))))
              refine ops_y hH407 rfl rfl (yv_len T.sl22 rfl (h5.now hH407 (n := 2) rfl).is) ?_
              refine ops_y hH407 rfl rfl (yv_lss rfl rfl) ?_
              refine ops_nil (thn_n ?_)
              by_cases hc408 : (j1 : Int) < (xs.length : Int)
              ·skip
               refine cond_t rfl (decide_eq_true hc408) ?_
               refine skip (thn_n (seq (block ?_)))
               have hq := S.shr_bd (b := b1) (k := (j1 : Int).toNat)
               have hlb := S.bitsTo_length (b1 : Int) j1
               refine region_drawY (fun w' => Heap [bx b400 41 [(sv (nth TT (i1 : Int))), (sv (nth TT (k1 : Int))), v_b14], base w0] w') [9] T.mixed (fun w409 hr410 => ?_)
               have hH411 := hH407.redrawn hr410
               refine any_takesT [0, 2, 3, 4, 5] (by kernel_rfl)  _ _ _ (by kernel_rfl) ?_
               refine qs_y rfl rfl (yv_field T.f41_2 rfl) ?_
               refine qs_y rfl rfl (yv_move rfl) (qs_y rfl rfl (yv_move rfl) ?_)
               refine qs_y rfl rfl (yv_shr rfl rfl (by omega)) ?_
               refine qs_y rfl rfl (yv_and1 rfl rfl hq.1 (by omega)) ?_
               refine qs_nil ?_
               refine any_takesY [1] (by kernel_rfl) (hH411.sub (List.Sublist.cons _ (List.Sublist.refl _))) _ _ _ (by kernel_rfl) ?_
               refine qs_y rfl rfl (yv_load T.one39 rfl (fun _ hw => Heap.cellw hw (n := 0) rfl rfl)) ?_
               refine qs_nil ?_
               refine any_allY [6] (by kernel_rfl) rfl ?_
               refine ⟨⟨_, rfl, ?_⟩, trivial⟩
               ·skip
                refine op_lit (us := [(0, (.int .i64 ((b1 : Int) / 2 ^ (j1 : Int).toNat % 2)))]) T.el39_encI [(b1 : Int) / 2 ^ (j1 : Int).toNat % 2] rfl (by decide) rfl (fun a ha => by simp [ha.ev (show ev _ (.tmp 109) = some _ from rfl)]) (fun w => by kernel_rfl) hH411 (fun u412 lo414 hi415 w413 hH416 => ?_)
                refine ops_nil ?_
                refine ⟨fun _ _ => (hH416.sub (List.Sublist.cons _ (List.Sublist.cons _ (List.Sublist.refl _)))), ?_⟩
                refine any_allY [7] (by kernel_rfl) rfl ?_
                refine ⟨⟨_, rfl, ?_⟩, trivial⟩
                ·skip
                 refine op_append (n := 1) T.el39_encI rfl rfl rfl hH416 rfl (Heap.rdw T.el39_encI hH416 (n := 0) rfl) (by first | omega | (simp only [List.length_append, List.length_cons, List.length_nil]; omega)) (fun u417 lo419 hi420 w418 hH421 => ?_)
                 refine ops_nil ?_
                 refine ⟨fun _ _ => (hH421.sub (List.Sublist.cons _ (List.Sublist.cons _ (List.Sublist.refl _)))), ?_⟩
                 refine any_takesT [8] (by kernel_rfl)  _ _ _ (by kernel_rfl) ?_
                 refine qs_y rfl rfl (yv_field T.f41_2 rfl) ?_
                 refine qs_nil ?_
                 refine any_allY [9] (by kernel_rfl) rfl ?_
                 refine ⟨⟨_, rfl, ?_⟩, trivial⟩
                 ·skip
                  refine op_store (n := 2) (j := 2) (us := [u417]) rfl rfl hH421 rfl T.sz39 (SliceIs.cells (Heap.rdw T.el39_encI hH421 (n := 1) rfl).is) rfl rfl (SliceIs.one (Heap.rdw T.el39_encI hH421 (n := 1) rfl).is) (fun w422 hH423 => ?_)
                  refine ops_nil ?_
                  refine ⟨(fun h => by cases h), ?_⟩
                  refine any_doneY (by kernel_rfl) ?_
                  refine blk_n (thn_n (region (ops_y hH423 rfl rfl (yv_move rfl) ?_)))
                  refine ops_y hH423 rfl rfl (yv_add rfl rfl (by omega)) ?_
                  refine ops_y hH423 rfl rfl (yv_assign rfl) (ops_nil ?_)
                  have hH424 := (hH423.sub (List.Sublist.cons _ (List.Sublist.refl _)))
                  refine lp_n (j1 + 1, u417, lo419, hi420) (Sub.cons rfl (Sub.cons rfl (Sub.cons rfl (Sub.cons rfl (Sub.cons rfl (Sub.cons rfl (Sub.cons rfl (Sub.cons rfl (Sub.cons rfl (Sub.nil _)))))))))) ?_ ?_
                  ·exact ⟨(Heap.recast (n := 0) hH424 rfl (rfl)), by omega⟩
                  ·first | (dsimp only; omega) | (show _ < _; omega)
              ·skip
               refine cond_f rfl (decide_eq_false hc408) ?_
               refine exit (thn_x (lp_x (blk_here (thn_n (seq ?_)))))
               by_cases hc425 : ∃ p, S.SolP xs (nth RR (i1 : Int)) (nth RR (k1 : Int)) (S.bitsTo (b1 : Int) xs.length) p
               ·skip
                have hO := S.rows_ord hRR (i := i1) (k := k1) (by omega) (by omega) (b1 : Int)
                have hco := S.checkOrder_iff.2 ⟨hjx, hO⟩
                have hlo1 : (nth RR (i1 : Int)).length = xs.length := hO.1
                have hlo2 : (nth RR (k1 : Int)).length = xs.length := hO.2.1
                have hlo3 := S.bitsTo_length (b1 : Int) xs.length
                obtain ⟨p, hs⟩ := ‹∃ p, S.SolP xs (nth RR (i1 : Int)) (nth RR (k1 : Int)) (S.bitsTo (b1 : Int) xs.length) p›
                have hpyy := (S.play_yes hjx hco hs).1
                have hck := hs.check hjx hO
                have hse := S.shortest_le_end hjx (hs.allT hjx) hs.1 (hs.right hjx hO)
                have hpn := hs.1
                have heq : (ti = i1 ∧ tk = k1 ∧ tb = b1) → S.endOf xs p = S.shortestOf xs := fun ⟨a, b, c⟩ => by subst a b c; rw [S.sol_same hjx hs hpt]; exact hpe
                have hj2 : j1 = xs.length := by omega
                have hH426 := Heap.recast (n := 0) hH407 rfl (show _ = (S.bitsTo (b1 : Int) xs.length) from by rw [hj2])
                refine region (ops_y hH426 rfl rfl (yv_move rfl) ?_)
                refine ops_y hH426 rfl rfl (yv_loadA (cs := [(sv (nth TT (i1 : Int))), (sv (nth TT (k1 : Int))), v_b14]) T.agg41 rfl rfl (fun _ hw => Heap.cellsw hw (n := 1) rfl (k := 0) rfl)) ?_
                have hev429 : Fn Try.prog 32 [v5, (.agg #[(sv (nth TT (i1 : Int))), (sv (nth TT (k1 : Int))), v_b14])].toArray _ _ := c32 (h5.now hH426 (n := 2) rfl) ((hel i1 (by omega)).now hH426 (n := 2) rfl) ((hel k1 (by omega)).now hH426 (n := 2) rfl) (Heap.rdw T.el39_encI hH426 (n := 0) rfl) (by omega) (by omega) (by omega) (by omega)
                simp only [hpyy] at hev429
                refine op_fn rfl rfl rfl hH426 (hev429) (fun u430 w427 lo431 hi432 hH428 hv433 => ?_)
                obtain ⟨p435, hu, -⟩ := hv433
                subst hu
                have hH434 := Heap.tup2 hH428 (n := 0) rfl
                refine ops_y hH434 rfl rfl (yv_move rfl) (ops_y hH434 rfl rfl (yv_extract rfl rfl) (ops_y hH434 rfl rfl (yv_extract rfl rfl) (ops_y hH434 rfl rfl (yv_assign rfl) (ops_y hH434 rfl rfl (yv_assign rfl) (ops_nil (thn_n (seq (seq (region ?_)))))))))
                refine ops_y hH434 rfl rfl (yv_move rfl) ?_
                refine ops_y hH434 rfl rfl (yv_castB rfl (yv_eql rfl rfl)) ?_
                refine ops_nil (thn_n ?_)
                refine cond_f rfl rfl ?_
                refine skip (thn_n (seq (region (ops_y hH434 rfl rfl (yv_move rfl) (ops_y hH434 rfl rfl (yv_move rfl) ?_)))))
                have hev438 : Fn Try.prog 19 [v5, p435].toArray _ _ := c19 (h5.now hH434 (n := 3) rfl) (Heap.rdw T.el23_encP hH434 (n := 0) rfl) (by omega) (by omega)
                simp only [hck] at hev438
                refine op_fnV rfl rfl rfl hH434 (hev438) (fun w436 hH437 => ?_)
                refine ops_y hH437 rfl rfl (yv_move rfl) (ops_y hH437 rfl rfl (yv_extract rfl rfl) (ops_y hH437 rfl rfl (yv_extract rfl rfl) (ops_y hH437 rfl rfl (yv_assign rfl) (ops_y hH437 rfl rfl (yv_assign rfl) (ops_nil (thn_n (seq (seq (region ?_)))))))))
                refine ops_y hH437 rfl rfl (yv_move rfl) ?_
                refine ops_y hH437 rfl rfl (yv_castB rfl (yv_neq rfl rfl)) ?_
                refine ops_y hH437 rfl rfl (yv_move rfl) (guard_yes rfl rfl rfl (ops_y hH437 rfl rfl (yv_move rfl) (guard_yes rfl rfl rfl ?_)))
                refine ops_y hH437 rfl rfl (yv_castB rfl (yv_neq rfl rfl)) ?_
                refine ops_y hH437 rfl rfl (yv_pick_f rfl rfl rfl) ?_
                refine ops_y hH437 rfl rfl (yv_move rfl) (guard_yes rfl rfl rfl (ops_y hH437 rfl rfl (yv_move rfl) (guard_yes rfl rfl rfl (ops_y hH437 rfl rfl (yv_move rfl) (guard_yes rfl rfl rfl ?_)))))
                refine ops_y hH437 rfl rfl (yv_lss rfl rfl) ?_
                refine ops_y hH437 rfl rfl (yv_pick_f rfl rfl rfl) ?_
                refine ops_nil (thn_n ?_)
                have hc439 : ¬ ((S.endOf xs p) < (S.shortestOf xs)) := by omega
                refine cond_f rfl (decide_eq_false hc439) ?_
                refine skip (thn_n (region (ops_y hH437 rfl rfl (yv_move rfl) (ops_y hH437 rfl rfl (yv_move rfl) ?_))))
                by_cases hc440 : ff3 = true
                ·skip
                 refine guard_no rfl rfl hc440 rfl ?_
                 refine guard_no rfl rfl hc440 rfl ?_
                 refine guard_no rfl rfl hc440 rfl ?_
                 refine ops_y hH437 rfl rfl (yv_pick_t rfl hc440 rfl) ?_
                 refine ops_y hH437 rfl rfl (yv_assign rfl) (ops_nil (blk_n (thn_n (region (ops_y hH437 rfl rfl (yv_move rfl) ?_)))))
                 refine ops_y hH437 rfl rfl (yv_add rfl rfl (by omega)) ?_
                 refine ops_y hH437 rfl rfl (yv_assign rfl) (ops_nil ?_)
                 have hH441 := (hH437.sub (List.Sublist.cons _ (List.Sublist.cons _ (List.Sublist.cons _ (List.Sublist.refl _)))))
                 refine lp_n (b1 + 1, true) (Sub.cons rfl (Sub.cons rfl (Sub.cons rfl (Sub.cons rfl (Sub.cons rfl (Sub.cons rfl (Sub.cons rfl (Sub.nil _)))))))) ?_ ?_
                 ·exact ⟨hH441, by omega, fun _ => rfl⟩
                 ·first | (dsimp only; omega) | (show _ < _; omega)
                ·skip
                 refine guard_yes rfl rfl (Bool.eq_false_iff.2 hc440) ?_
                 refine ops_y hH437 rfl rfl (yv_move rfl) ?_
                 refine guard_yes rfl rfl (Bool.eq_false_iff.2 hc440) ?_
                 refine ops_y hH437 rfl rfl (yv_move rfl) ?_
                 refine guard_yes rfl rfl (Bool.eq_false_iff.2 hc440) ?_
                 refine ops_y hH437 rfl rfl (yv_eql rfl rfl) ?_
                 refine ops_y hH437 rfl rfl (yv_pick_f rfl (Bool.eq_false_iff.2 hc440) rfl) ?_
                 refine ops_y hH437 rfl rfl (yv_assign rfl) (ops_nil (blk_n (thn_n (region (ops_y hH437 rfl rfl (yv_move rfl) ?_)))))
                 refine ops_y hH437 rfl rfl (yv_add rfl rfl (by omega)) ?_
                 refine ops_y hH437 rfl rfl (yv_assign rfl) (ops_nil ?_)
                 have hH442 := (hH437.sub (List.Sublist.cons _ (List.Sublist.cons _ (List.Sublist.cons _ (List.Sublist.refl _)))))
                 refine lp_n (b1 + 1, decide ((S.endOf xs p) = (S.shortestOf xs))) (Sub.cons rfl (Sub.cons rfl (Sub.cons rfl (Sub.cons rfl (Sub.cons rfl (Sub.cons rfl (Sub.cons rfl (Sub.nil _)))))))) ?_ ?_
                 ·exact ⟨hH442, by omega, fun h => decide_eq_true (heq (Classical.byContradiction fun hc => absurd (hf3 (by omega)) ‹¬ ff3 = true›))⟩
                 ·first | (dsimp only; omega) | (show _ < _; omega)
               ·skip
                have hO := S.rows_ord hRR (i := i1) (k := k1) (by omega) (by omega) (b1 : Int)
                have hco := S.checkOrder_iff.2 ⟨hjx, hO⟩
                have hlo1 : (nth RR (i1 : Int)).length = xs.length := hO.1
                have hlo2 : (nth RR (k1 : Int)).length = xs.length := hO.2.1
                have hlo3 := S.bitsTo_length (b1 : Int) xs.length
                have hns : ¬ ∃ p, S.SolP xs (nth RR (i1 : Int)) (nth RR (k1 : Int)) (S.bitsTo (b1 : Int) xs.length) p := ‹_›
                have hpy := (S.play_no hco hns).1
                have hnt : ¬ (ti = i1 ∧ tk = k1 ∧ tb = b1) := fun ⟨a, b, c⟩ => hns ⟨pt, by subst a b c; exact hpt⟩
                have hj2 : j1 = xs.length := by omega
                have hH443 := Heap.recast (n := 0) hH407 rfl (show _ = (S.bitsTo (b1 : Int) xs.length) from by rw [hj2])
                refine region (ops_y hH443 rfl rfl (yv_move rfl) ?_)
                refine ops_y hH443 rfl rfl (yv_loadA (cs := [(sv (nth TT (i1 : Int))), (sv (nth TT (k1 : Int))), v_b14]) T.agg41 rfl rfl (fun _ hw => Heap.cellsw hw (n := 1) rfl (k := 0) rfl)) ?_
                have hev446 : Fn Try.prog 32 [v5, (.agg #[(sv (nth TT (i1 : Int))), (sv (nth TT (k1 : Int))), v_b14])].toArray _ _ := c32 (h5.now hH443 (n := 2) rfl) ((hel i1 (by omega)).now hH443 (n := 2) rfl) ((hel k1 (by omega)).now hH443 (n := 2) rfl) (Heap.rdw T.el39_encI hH443 (n := 0) rfl) (by omega) (by omega) (by omega) (by omega)
                simp only [hpy] at hev446
                refine op_fn rfl rfl rfl hH443 (hev446) (fun u447 w444 lo448 hi449 hH445 hv450 => ?_)
                obtain ⟨p452, hu, -⟩ := hv450
                subst hu
                have hH451 := Heap.tup2 hH445 (n := 0) rfl
                refine ops_y hH451 rfl rfl (yv_move rfl) (ops_y hH451 rfl rfl (yv_extract rfl rfl) (ops_y hH451 rfl rfl (yv_extract rfl rfl) (ops_y hH451 rfl rfl (yv_assign rfl) (ops_y hH451 rfl rfl (yv_assign rfl) (ops_nil (thn_n (seq (seq (region ?_)))))))))
                refine ops_y hH451 rfl rfl (yv_move rfl) ?_
                refine ops_y hH451 rfl rfl (yv_castB rfl (yv_eql rfl rfl)) ?_
                refine ops_nil (thn_n ?_)
                refine cond_t rfl rfl ?_
                refine exit (thn_x (blk_here (thn_n (region (ops_y hH451 rfl rfl (yv_move rfl) ?_)))))
                refine ops_y hH451 rfl rfl (yv_add rfl rfl (by omega)) ?_
                refine ops_y hH451 rfl rfl (yv_assign rfl) (ops_nil ?_)
                have hH453 := (hH451.sub (List.Sublist.cons _ (List.Sublist.cons _ (List.Sublist.cons _ (List.Sublist.refl _)))))
                refine lp_n (b1 + 1, ff3) (Sub.cons rfl (Sub.cons rfl (Sub.cons rfl (Sub.cons rfl (Sub.cons rfl (Sub.cons rfl (Sub.cons rfl (Sub.nil _)))))))) ?_ ?_
                ·exact ⟨hH453, by omega, fun h => hf3 (by omega)⟩
                ·first | (dsimp only; omega) | (show _ < _; omega)
          ·skip
           refine cond_f rfl (decide_eq_false hc394) ?_
           refine exit (thn_x (lp_x (blk_here (blk_n (thn_n (region (ops_y hH393 rfl rfl (yv_move rfl) ?_)))))))
           refine ops_y hH393 rfl rfl (yv_add rfl rfl (by omega)) ?_
           refine ops_y hH393 rfl rfl (yv_assign rfl) (ops_nil ?_)
           refine lp_n (k1 + 1, ff3) (Sub.cons rfl (Sub.cons rfl (Sub.cons rfl (Sub.cons rfl (Sub.cons rfl (Sub.cons rfl (Sub.nil _))))))) ?_ ?_
           ·exact ⟨hH393, by omega, fun h => hf3 (by omega)⟩
           ·first | (dsimp only; omega) | (show _ < _; omega)
        ·skip
         refine cond_f rfl (decide_eq_false hc391) ?_
         refine exit (thn_x (lp_x (blk_here (blk_n (thn_n (region (ops_y hH390 rfl rfl (yv_move rfl) ?_)))))))
         refine ops_y hH390 rfl rfl (yv_add rfl rfl (by omega)) ?_
         refine ops_y hH390 rfl rfl (yv_assign rfl) (ops_nil ?_)
         refine lp_n (i1 + 1, ff2) (Sub.cons rfl (Sub.cons rfl (Sub.cons rfl (Sub.cons rfl (Sub.cons rfl (Sub.nil _)))))) ?_ ?_
         ·exact ⟨hH390, by omega, fun h => hf2 (by omega)⟩
         ·first | (dsimp only; omega) | (show _ < _; omega)
      ·skip
       have hff : ff = true := hf1 (by omega)
       refine cond_f rfl (decide_eq_false hc388) ?_
       refine exit (thn_x (lp_x (blk_here (thn_n (seq (region (ops_y hH387 rfl rfl (yv_move rfl) (ops_y hH387 rfl rfl (yv_move rfl) ?_))))))))
       have hc454 : ff = true := hff
       refine guard_yes rfl rfl hc454 ?_
       refine op_fnV rfl rfl rfl hH387 (c17) (fun w455 hH456 => ?_)
       refine ops_y hH456 rfl rfl (yv_pick_t rfl hc454 rfl) ?_
       refine ops_y hH456 rfl rfl (yv_assign rfl) (ops_nil (thn_n (ret ?_)))
       refine fin (Heap.unbase hH456 hbw) (fun w' hf => (res1 rfl (show RV _ _ _ (.tmp 4) _ from rfl))) (fun w' hf => ?_)
       rfl
   ·skip
    refine cond_f rfl (decide_eq_false hc359) ?_
    refine skip (thn_n (seq (seq (region (ops_y hH358 rfl rfl (yv_move rfl) ?_)))))
    refine ops_y hH358 rfl rfl (yv_len T.sl22 rfl (Rd.upto (h0.now hH358 (n := 3) rfl) (hi := (min (js.length : Int) 2).toNat) (by omega)).is) ?_
    refine ops_y hH358 rfl rfl (yv_eql rfl rfl) ?_
    refine ops_nil (thn_n ?_)
    have hc457 : ¬ (((js.take (min (js.length : Int) 2).toNat).length : Int) = 3) := by omega
    refine cond_f rfl (decide_eq_false hc457) ?_
    refine skip (thn_n ?_)
    refine cut (S := World × List S.Pr × Value × Value × List (Nat × Nat × Nat) × List (List Int)) (fun (w0, xs, v5, v9, TT, RR) => [(5, v5), (6, (.int .i64 (S.shortestOf xs))), (9, v9), (10, (.bool false)), (4, (.bool false))]) (fun (w0, xs, v5, v9, TT, RR) w1 => Heap [base w0] w1 ∧ Below w.heap.size w w0 ∧ Rd encP 2 v5 xs w0 ∧ S.Jobs xs ∧ S.RowsOf xs.length RR ∧ Rd encS 1 v9 TT w0 ∧ TT.length = RR.length ∧ ∀ i : Nat, i < TT.length → Rd encI 1 (sv (nth TT (i : Int))) (nth RR (i : Int)) w0) ?_ ?_
    ·skip
     refine region (ops_y hH358 rfl rfl (yv_assign rfl) (ops_nil ?_))
     refine mid_n (w355, (js.take (min (js.length : Int) 2).toNat), (cutv v 2 0 (min (js.length : Int) 2).toNat), u354, [s352], [[0]]) (Sub.cons rfl (Sub.cons rfl (Sub.cons rfl (Sub.cons rfl (Sub.cons rfl (Sub.nil _)))))) ?_
     exact ⟨Heap.start w355, hH358.get (n := 3) rfl, (Rd.upto (h0.now hH358 (n := 3) rfl) (hi := (min (js.length : Int) 2).toNat) (by omega)), hjt, (by rw [show (js.take (min (js.length : Int) 2).toNat).length = 1 by omega]; exact S.rows1), (Heap.rdw T.el67_encS hH358 (n := 0) rfl), rfl, S.all1 (by show Rd encI 1 (sv s352) [0] _; rw [← hs353]; exact Heap.rdw T.el39_encI hH358 (n := 1) rfl)⟩
    ·rintro ⟨w0, xs, v5, v9, TT, RR⟩ w458 ⟨hH459, hbw, h5, hjx, hRR, h9, hTl, hel⟩
     show Holds _ _ _ _ _ [(5, v5), (6, (.int .i64 (S.shortestOf xs))), (9, v9), (10, (.bool false)), (4, (.bool false))] _ _
     refine seq (seq ?_)
     obtain ⟨ti, tk, tb, hti, htk, htb, pt, hpt, hpe⟩ := S.target hjx hRR
     have hx1 := hjx.1
     have hx3 := hRR.1
     have hR6 := hRR.2.1
     have hpw := S.pw_le xs.length
     refine region (ops_y hH459 rfl rfl (yv_assign rfl) (ops_nil (thn_n (block ?_))))
     refine loop (S := Nat × Bool) (fun (i1, ff) => [(11, (.int .i64 (i1 : Int))), (10, (.bool ff)), (5, v5), (6, (.int .i64 (S.shortestOf xs))), (9, v9)]) (fun (i1, ff) w1 => Heap [base w0] w1 ∧ i1 ≤ RR.length ∧ (ti < i1 → ff = true)) (fun (i1, ff) => RR.length - i1) (0, false) (Sub.cons rfl (Sub.cons rfl (Sub.cons rfl (Sub.cons rfl (Sub.cons rfl (Sub.nil _)))))) ?_ ?_
     ·exact ⟨hH459, by omega, fun h => by omega⟩
     ·rintro ⟨i1, ff⟩ w460 ⟨hH461, hi1, hf1⟩
      show Holds _ _ _ _ _ [(11, (.int .i64 (i1 : Int))), (10, (.bool ff)), (5, v5), (6, (.int .i64 (S.shortestOf xs))), (9, v9)] _ _
      refine seq (seq (region (ops_y hH461 rfl rfl (yv_move rfl) (ops_y hH461 rfl rfl (yv_move rfl) ?_))))
      refine ops_y hH461 rfl rfl (yv_len T.sl67 rfl (h9.now hH461 (n := 0) rfl).is) ?_
      refine ops_y hH461 rfl rfl (yv_lss rfl rfl) ?_
      refine ops_nil (thn_n ?_)
      by_cases hc462 : (i1 : Int) < (TT.length : Int)
      ·skip
       refine cond_t rfl (decide_eq_true hc462) ?_
       refine skip (thn_n (seq (block (seq (region (ops_y hH461 rfl rfl (yv_assign rfl) (ops_nil (thn_n (block ?_)))))))))
       refine loop (S := Nat × Bool) (fun (k1, ff2) => [(12, (.int .i64 (k1 : Int))), (10, (.bool ff2)), (5, v5), (6, (.int .i64 (S.shortestOf xs))), (9, v9), (11, (.int .i64 (i1 : Int)))]) (fun (k1, ff2) w1 => Heap [base w0] w1 ∧ k1 ≤ RR.length ∧ (ti < i1 ∨ (ti = i1 ∧ tk < k1) → ff2 = true)) (fun (k1, ff2) => RR.length - k1) (0, ff) (Sub.cons rfl (Sub.cons rfl (Sub.cons rfl (Sub.cons rfl (Sub.cons rfl (Sub.cons rfl (Sub.nil _))))))) ?_ ?_
       ·exact ⟨hH461, by omega, fun h => hf1 (by omega)⟩
       ·rintro ⟨k1, ff2⟩ w463 ⟨hH464, hk1, hf2⟩
        show Holds _ _ _ _ _ [(12, (.int .i64 (k1 : Int))), (10, (.bool ff2)), (5, v5), (6, (.int .i64 (S.shortestOf xs))), (9, v9), (11, (.int .i64 (i1 : Int)))] _ _
        refine seq (seq (region (ops_y hH464 rfl rfl (yv_move rfl) (ops_y hH464 rfl rfl (yv_move rfl) ?_))))
        refine ops_y hH464 rfl rfl (yv_len T.sl67 rfl (h9.now hH464 (n := 0) rfl).is) ?_
        refine ops_y hH464 rfl rfl (yv_lss rfl rfl) ?_
        refine ops_nil (thn_n ?_)
        by_cases hc465 : (k1 : Int) < (TT.length : Int)
        ·skip
         refine cond_t rfl (decide_eq_true hc465) ?_
         refine skip (thn_n (seq (block (seq (region (ops_y hH464 rfl rfl (yv_assign rfl) (ops_nil (thn_n (block ?_)))))))))
         refine loop (S := Nat × Bool) (fun (b1, ff3) => [(13, (.int .i64 (b1 : Int))), (10, (.bool ff3)), (5, v5), (6, (.int .i64 (S.shortestOf xs))), (9, v9), (11, (.int .i64 (i1 : Int))), (12, (.int .i64 (k1 : Int)))]) (fun (b1, ff3) w1 => Heap [base w0] w1 ∧ b1 ≤ S.pw xs.length ∧ ((ti < i1 ∨ (ti = i1 ∧ tk < k1)) ∨ (ti = i1 ∧ tk = k1 ∧ tb < b1) → ff3 = true)) (fun (b1, ff3) => S.pw xs.length - b1) (0, ff2) (Sub.cons rfl (Sub.cons rfl (Sub.cons rfl (Sub.cons rfl (Sub.cons rfl (Sub.cons rfl (Sub.cons rfl (Sub.nil _)))))))) ?_ ?_
         ·exact ⟨hH464, by omega, fun h => hf2 (by omega)⟩
         ·rintro ⟨b1, ff3⟩ w466 ⟨hH467, hb1, hf3⟩
          show Holds _ _ _ _ _ [(13, (.int .i64 (b1 : Int))), (10, (.bool ff3)), (5, v5), (6, (.int .i64 (S.shortestOf xs))), (9, v9), (11, (.int .i64 (i1 : Int))), (12, (.int .i64 (k1 : Int)))] _ _
          refine seq (seq (region (ops_y hH467 rfl rfl (yv_move rfl) (ops_y hH467 rfl rfl (yv_move rfl) ?_))))
          refine ops_y hH467 rfl rfl (yv_len T.sl22 rfl (h5.now hH467 (n := 0) rfl).is) ?_
          refine ops_y hH467 rfl rfl (yv_shl1 rfl rfl (by omega) (S.pw_shl (n := xs.length) hx3)) ?_
          refine ops_y hH467 rfl rfl (yv_lss rfl rfl) ?_
          refine ops_nil (thn_n ?_)
          by_cases hc468 : (b1 : Int) < (S.pw xs.length : Int)
          ·skip
           refine cond_t rfl (decide_eq_true hc468) ?_
           refine skip (thn_n (seq (block (seq ?_))))
           refine region_drawY (fun w' => Heap [base w0] w') [] T.mixed (fun w469 hr470 => ?_)
           have hH471 := hH467.redrawn hr470
           refine any_takesT [0, 1, 2, 4, 5, 6] (by kernel_rfl)  _ _ _ (by kernel_rfl) ?_
           refine qs_y rfl rfl (yv_move rfl) (qs_y rfl rfl (yv_move rfl) ?_)
           refine qs_y rfl rfl (yv_index T.sl67 rfl rfl (h9.now hH471 (n := 0) rfl).is (by omega)) ?_
           refine qs_y rfl rfl (yv_move rfl) (qs_y rfl rfl (yv_move rfl) ?_)
           refine qs_y rfl rfl (yv_index T.sl67 rfl rfl (h9.now hH471 (n := 0) rfl).is (by omega)) ?_
           refine qs_nil ?_
           refine any_takesY [3, 7] (by kernel_rfl) hH471 _ _ _ (by kernel_rfl) ?_
           refine qs_y rfl rfl (yv_load T.one39 rfl (fun _ hw => Rd.at (h9.now hw (n := 0) rfl) (i := (i1 : Int)) (by omega) (j := 0) rfl)) ?_
           refine qs_y rfl rfl (yv_load T.one39 rfl (fun _ hw => Rd.at (h9.now hw (n := 0) rfl) (i := (k1 : Int)) (by omega) (j := 0) rfl)) ?_
           refine qs_nil ?_
           obtain ⟨_, _, hb472, _⟩ := ((hel i1 (by omega)).now hH471 (n := 0) rfl).is
           obtain ⟨_, _, hb473, _⟩ := ((hel k1 (by omega)).now hH471 (n := 0) rfl).is
           refine any_takesT [8] (by kernel_rfl)  _ _ _ (by kernel_rfl) ?_
           refine qs_y rfl rfl (yv_build (v := (.agg #[(sv (nth TT (i1 : Int))), (sv (nth TT (k1 : Int))), (.slice none 0 0)])) (us := [(0, (sv (nth TT (i1 : Int)))), (1, (sv (nth TT (k1 : Int))))]) (fun a ha => by simp [ha.ev (show ev _ (.tmp 92) = some _ from rfl), ha.ev (show ev _ (.tmp 96) = some _ from rfl)]) (fun w => by rw [hb472, hb473]; kernel_rfl)) ?_
           refine qs_nil ?_
           refine any_allY [9] (by kernel_rfl) rfl ?_
           refine ⟨⟨_, rfl, ?_⟩, trivial⟩
           ·skip
            refine op_alloc (z := (.agg #[(.slice none 0 0), (.slice none 0 0), (.slice none 0 0)])) (us := [(.slice none 0 0), (.slice none 0 0), (.slice none 0 0)]) (fun _ => by kernel_rfl) rfl rfl hH471 (fun b474 w475 hH476 => ?_)
            refine ops_nil ?_
            refine ⟨fun _ _ => (hH476.sub (List.Sublist.cons _ (List.Sublist.refl _))), ?_⟩
            refine any_allY [10] (by kernel_rfl) rfl ?_
            refine ⟨⟨_, rfl, ?_⟩, trivial⟩
            ·skip
             refine op_store (n := 0) (j := 0) (us := [(sv (nth TT (i1 : Int))), (sv (nth TT (k1 : Int))), (.slice none 0 0)]) rfl rfl hH476 rfl T.sz41 rfl rfl rfl (all_one (SliceIs.one1 ((hel i1 (by omega)).now hH476 (n := 1) rfl).is) (all_one (SliceIs.one1 ((hel k1 (by omega)).now hH476 (n := 1) rfl).is) (all_one rfl rfl))) (fun w477 hH478 => ?_)
             refine ops_nil ?_
             refine ⟨fun _ _ => (hH478.sub (List.Sublist.cons _ (List.Sublist.refl _))), ?_⟩
             refine any_doneY (by kernel_rfl) ?_
             refine thn_n (seq (seq (region (ops_y hH478 rfl rfl (yv_assign rfl) (ops_nil (thn_n (block ?_)))))))
             have hH479 := ow_nil (enc := encI) 3 1 hH478
             refine loop (S := Nat × Value × Nat × Nat) (fun (j1, v_b14, lo_b14, hi_b14) => [(15, (.int .i64 (j1 : Int))), (5, v5), (6, (.int .i64 (S.shortestOf xs))), (9, v9), (10, (.bool ff3)), (11, (.int .i64 (i1 : Int))), (12, (.int .i64 (k1 : Int))), (13, (.int .i64 (b1 : Int))), (14, (.pointer (some ⟨b474, 0, none⟩)))]) (fun (j1, v_b14, lo_b14, hi_b14) w1 => Heap [ow lo_b14 hi_b14 3 1 encI v_b14 (S.bitsTo (b1 : Int) j1), bx b474 41 [(sv (nth TT (i1 : Int))), (sv (nth TT (k1 : Int))), v_b14], base w0] w1 ∧ j1 ≤ xs.length) (fun (j1, v_b14, lo_b14, hi_b14) => xs.length - j1) (0, (.slice none 0 0), w477.heap.size, w477.heap.size) (Sub.cons rfl (Sub.cons rfl (Sub.cons rfl (Sub.cons rfl (Sub.cons rfl (Sub.cons rfl (Sub.cons rfl (Sub.cons rfl (Sub.cons rfl (Sub.nil _)))))))))) ?_ ?_
             ·exact ⟨hH479, by omega⟩
             ·rintro ⟨j1, v_b14, lo_b14, hi_b14⟩ w480 ⟨hH481, hj1⟩
              show Holds _ _ _ _ _ [(15, (.int .i64 (j1 : Int))), (5, v5), (6, (.int .i64 (S.shortestOf xs))), (9, v9), (10, (.bool ff3)), (11, (.int .i64 (i1 : Int))), (12, (.int .i64 (k1 : Int))), (13, (.int .i64 (b1 : Int))), (14, (.pointer (some ⟨b474, 0, none⟩)))] _ _
              refine seq (seq (region (ops_y hH481 rfl rfl (yv_move rfl) (ops_y hH481 rfl rfl (yv_move rfl) ?_))))
              refine ops_y hH481 rfl rfl (yv_len T.sl22 rfl (h5.now hH481 (n := 2) rfl).is) ?_
              refine ops_y hH481 rfl rfl (yv_lss rfl rfl) ?_
              refine ops_nil (thn_n ?_)
              by_cases hc482 : (j1 : Int) < (xs.length : Int)
              ·skip
               refine cond_t rfl (decide_eq_true hc482) ?_
               refine skip (thn_n (seq (block ?_)))
               have hq := S.shr_bd (b := b1) (k := (j1 : Int).toNat)
               have hlb := S.bitsTo_length (b1 : Int) j1
               refine region_drawY (fun w' => Heap [bx b474 41 [(sv (nth TT (i1 : Int))), (sv (nth TT (k1 : Int))), v_b14], base w0] w') [9] T.mixed (fun w483 hr484 => ?_)
               have hH485 := hH481.redrawn hr484
               refine any_takesT [0, 2, 3, 4, 5] (by kernel_rfl)  _ _ _ (by kernel_rfl) ?_
               refine qs_y rfl rfl (yv_field T.f41_2 rfl) ?_
               refine qs_y rfl rfl (yv_move rfl) (qs_y rfl rfl (yv_move rfl) ?_)
               refine qs_y rfl rfl (yv_shr rfl rfl (by omega)) ?_
               refine qs_y rfl rfl (yv_and1 rfl rfl hq.1 (by omega)) ?_
               refine qs_nil ?_
               refine any_takesY [1] (by kernel_rfl) (hH485.sub (List.Sublist.cons _ (List.Sublist.refl _))) _ _ _ (by kernel_rfl) ?_
               refine qs_y rfl rfl (yv_load T.one39 rfl (fun _ hw => Heap.cellw hw (n := 0) rfl rfl)) ?_
               refine qs_nil ?_
               refine any_allY [6] (by kernel_rfl) rfl ?_
               refine ⟨⟨_, rfl, ?_⟩, trivial⟩
               ·skip
                refine op_lit (us := [(0, (.int .i64 ((b1 : Int) / 2 ^ (j1 : Int).toNat % 2)))]) T.el39_encI [(b1 : Int) / 2 ^ (j1 : Int).toNat % 2] rfl (by decide) rfl (fun a ha => by simp [ha.ev (show ev _ (.tmp 109) = some _ from rfl)]) (fun w => by kernel_rfl) hH485 (fun u486 lo488 hi489 w487 hH490 => ?_)
                refine ops_nil ?_
                refine ⟨fun _ _ => (hH490.sub (List.Sublist.cons _ (List.Sublist.cons _ (List.Sublist.refl _)))), ?_⟩
                refine any_allY [7] (by kernel_rfl) rfl ?_
                refine ⟨⟨_, rfl, ?_⟩, trivial⟩
                ·skip
                 refine op_append (n := 1) T.el39_encI rfl rfl rfl hH490 rfl (Heap.rdw T.el39_encI hH490 (n := 0) rfl) (by first | omega | (simp only [List.length_append, List.length_cons, List.length_nil]; omega)) (fun u491 lo493 hi494 w492 hH495 => ?_)
                 refine ops_nil ?_
                 refine ⟨fun _ _ => (hH495.sub (List.Sublist.cons _ (List.Sublist.cons _ (List.Sublist.refl _)))), ?_⟩
                 refine any_takesT [8] (by kernel_rfl)  _ _ _ (by kernel_rfl) ?_
                 refine qs_y rfl rfl (yv_field T.f41_2 rfl) ?_
                 refine qs_nil ?_
                 refine any_allY [9] (by kernel_rfl) rfl ?_
                 refine ⟨⟨_, rfl, ?_⟩, trivial⟩
                 ·skip
                  refine op_store (n := 2) (j := 2) (us := [u491]) rfl rfl hH495 rfl T.sz39 (SliceIs.cells (Heap.rdw T.el39_encI hH495 (n := 1) rfl).is) rfl rfl (SliceIs.one (Heap.rdw T.el39_encI hH495 (n := 1) rfl).is) (fun w496 hH497 => ?_)
                  refine ops_nil ?_
                  refine ⟨(fun h => by cases h), ?_⟩
                  refine any_doneY (by kernel_rfl) ?_
                  refine blk_n (thn_n (region (ops_y hH497 rfl rfl (yv_move rfl) ?_)))
                  refine ops_y hH497 rfl rfl (yv_add rfl rfl (by omega)) ?_
                  refine ops_y hH497 rfl rfl (yv_assign rfl) (ops_nil ?_)
                  have hH498 := (hH497.sub (List.Sublist.cons _ (List.Sublist.refl _)))
                  refine lp_n (j1 + 1, u491, lo493, hi494) (Sub.cons rfl (Sub.cons rfl (Sub.cons rfl (Sub.cons rfl (Sub.cons rfl (Sub.cons rfl (Sub.cons rfl (Sub.cons rfl (Sub.cons rfl (Sub.nil _)))))))))) ?_ ?_
                  ·exact ⟨(Heap.recast (n := 0) hH498 rfl (rfl)), by omega⟩
                  ·first | (dsimp only; omega) | (show _ < _; omega)
              ·skip
               refine cond_f rfl (decide_eq_false hc482) ?_
               refine exit (thn_x (lp_x (blk_here (thn_n (seq ?_)))))
               by_cases hc499 : ∃ p, S.SolP xs (nth RR (i1 : Int)) (nth RR (k1 : Int)) (S.bitsTo (b1 : Int) xs.length) p
               ·skip
                have hO := S.rows_ord hRR (i := i1) (k := k1) (by omega) (by omega) (b1 : Int)
                have hco := S.checkOrder_iff.2 ⟨hjx, hO⟩
                have hlo1 : (nth RR (i1 : Int)).length = xs.length := hO.1
                have hlo2 : (nth RR (k1 : Int)).length = xs.length := hO.2.1
                have hlo3 := S.bitsTo_length (b1 : Int) xs.length
                obtain ⟨p, hs⟩ := ‹∃ p, S.SolP xs (nth RR (i1 : Int)) (nth RR (k1 : Int)) (S.bitsTo (b1 : Int) xs.length) p›
                have hpyy := (S.play_yes hjx hco hs).1
                have hck := hs.check hjx hO
                have hse := S.shortest_le_end hjx (hs.allT hjx) hs.1 (hs.right hjx hO)
                have hpn := hs.1
                have heq : (ti = i1 ∧ tk = k1 ∧ tb = b1) → S.endOf xs p = S.shortestOf xs := fun ⟨a, b, c⟩ => by subst a b c; rw [S.sol_same hjx hs hpt]; exact hpe
                have hj2 : j1 = xs.length := by omega
                have hH500 := Heap.recast (n := 0) hH481 rfl (show _ = (S.bitsTo (b1 : Int) xs.length) from by rw [hj2])
                refine region (ops_y hH500 rfl rfl (yv_move rfl) ?_)
                refine ops_y hH500 rfl rfl (yv_loadA (cs := [(sv (nth TT (i1 : Int))), (sv (nth TT (k1 : Int))), v_b14]) T.agg41 rfl rfl (fun _ hw => Heap.cellsw hw (n := 1) rfl (k := 0) rfl)) ?_
                have hev503 : Fn Try.prog 32 [v5, (.agg #[(sv (nth TT (i1 : Int))), (sv (nth TT (k1 : Int))), v_b14])].toArray _ _ := c32 (h5.now hH500 (n := 2) rfl) ((hel i1 (by omega)).now hH500 (n := 2) rfl) ((hel k1 (by omega)).now hH500 (n := 2) rfl) (Heap.rdw T.el39_encI hH500 (n := 0) rfl) (by omega) (by omega) (by omega) (by omega)
                simp only [hpyy] at hev503
                refine op_fn rfl rfl rfl hH500 (hev503) (fun u504 w501 lo505 hi506 hH502 hv507 => ?_)
                obtain ⟨p509, hu, -⟩ := hv507
                subst hu
                have hH508 := Heap.tup2 hH502 (n := 0) rfl
                refine ops_y hH508 rfl rfl (yv_move rfl) (ops_y hH508 rfl rfl (yv_extract rfl rfl) (ops_y hH508 rfl rfl (yv_extract rfl rfl) (ops_y hH508 rfl rfl (yv_assign rfl) (ops_y hH508 rfl rfl (yv_assign rfl) (ops_nil (thn_n (seq (seq (region ?_)))))))))
                refine ops_y hH508 rfl rfl (yv_move rfl) ?_
                refine ops_y hH508 rfl rfl (yv_castB rfl (yv_eql rfl rfl)) ?_
                refine ops_nil (thn_n ?_)
                refine cond_f rfl rfl ?_
                refine skip (thn_n (seq (region (ops_y hH508 rfl rfl (yv_move rfl) (ops_y hH508 rfl rfl (yv_move rfl) ?_)))))
                have hev512 : Fn Try.prog 19 [v5, p509].toArray _ _ := c19 (h5.now hH508 (n := 3) rfl) (Heap.rdw T.el23_encP hH508 (n := 0) rfl) (by omega) (by omega)
                simp only [hck] at hev512
                refine op_fnV rfl rfl rfl hH508 (hev512) (fun w510 hH511 => ?_)
                refine ops_y hH511 rfl rfl (yv_move rfl) (ops_y hH511 rfl rfl (yv_extract rfl rfl) (ops_y hH511 rfl rfl (yv_extract rfl rfl) (ops_y hH511 rfl rfl (yv_assign rfl) (ops_y hH511 rfl rfl (yv_assign rfl) (ops_nil (thn_n (seq (seq (region ?_)))))))))
                refine ops_y hH511 rfl rfl (yv_move rfl) ?_
                refine ops_y hH511 rfl rfl (yv_castB rfl (yv_neq rfl rfl)) ?_
                refine ops_y hH511 rfl rfl (yv_move rfl) (guard_yes rfl rfl rfl (ops_y hH511 rfl rfl (yv_move rfl) (guard_yes rfl rfl rfl ?_)))
                refine ops_y hH511 rfl rfl (yv_castB rfl (yv_neq rfl rfl)) ?_
                refine ops_y hH511 rfl rfl (yv_pick_f rfl rfl rfl) ?_
                refine ops_y hH511 rfl rfl (yv_move rfl) (guard_yes rfl rfl rfl (ops_y hH511 rfl rfl (yv_move rfl) (guard_yes rfl rfl rfl (ops_y hH511 rfl rfl (yv_move rfl) (guard_yes rfl rfl rfl ?_)))))
                refine ops_y hH511 rfl rfl (yv_lss rfl rfl) ?_
                refine ops_y hH511 rfl rfl (yv_pick_f rfl rfl rfl) ?_
                refine ops_nil (thn_n ?_)
                have hc513 : ¬ ((S.endOf xs p) < (S.shortestOf xs)) := by omega
                refine cond_f rfl (decide_eq_false hc513) ?_
                refine skip (thn_n (region (ops_y hH511 rfl rfl (yv_move rfl) (ops_y hH511 rfl rfl (yv_move rfl) ?_))))
                by_cases hc514 : ff3 = true
                ·skip
                 refine guard_no rfl rfl hc514 rfl ?_
                 refine guard_no rfl rfl hc514 rfl ?_
                 refine guard_no rfl rfl hc514 rfl ?_
                 refine ops_y hH511 rfl rfl (yv_pick_t rfl hc514 rfl) ?_
                 refine ops_y hH511 rfl rfl (yv_assign rfl) (ops_nil (blk_n (thn_n (region (ops_y hH511 rfl rfl (yv_move rfl) ?_)))))
                 refine ops_y hH511 rfl rfl (yv_add rfl rfl (by omega)) ?_
                 refine ops_y hH511 rfl rfl (yv_assign rfl) (ops_nil ?_)
                 have hH515 := (hH511.sub (List.Sublist.cons _ (List.Sublist.cons _ (List.Sublist.cons _ (List.Sublist.refl _)))))
                 refine lp_n (b1 + 1, true) (Sub.cons rfl (Sub.cons rfl (Sub.cons rfl (Sub.cons rfl (Sub.cons rfl (Sub.cons rfl (Sub.cons rfl (Sub.nil _)))))))) ?_ ?_
                 ·exact ⟨hH515, by omega, fun _ => rfl⟩
                 ·first | (dsimp only; omega) | (show _ < _; omega)
                ·skip
                 refine guard_yes rfl rfl (Bool.eq_false_iff.2 hc514) ?_
                 refine ops_y hH511 rfl rfl (yv_move rfl) ?_
                 refine guard_yes rfl rfl (Bool.eq_false_iff.2 hc514) ?_
                 refine ops_y hH511 rfl rfl (yv_move rfl) ?_
                 refine guard_yes rfl rfl (Bool.eq_false_iff.2 hc514) ?_
                 refine ops_y hH511 rfl rfl (yv_eql rfl rfl) ?_
                 refine ops_y hH511 rfl rfl (yv_pick_f rfl (Bool.eq_false_iff.2 hc514) rfl) ?_
                 refine ops_y hH511 rfl rfl (yv_assign rfl) (ops_nil (blk_n (thn_n (region (ops_y hH511 rfl rfl (yv_move rfl) ?_)))))
                 refine ops_y hH511 rfl rfl (yv_add rfl rfl (by omega)) ?_
                 refine ops_y hH511 rfl rfl (yv_assign rfl) (ops_nil ?_)
                 have hH516 := (hH511.sub (List.Sublist.cons _ (List.Sublist.cons _ (List.Sublist.cons _ (List.Sublist.refl _)))))
                 refine lp_n (b1 + 1, decide ((S.endOf xs p) = (S.shortestOf xs))) (Sub.cons rfl (Sub.cons rfl (Sub.cons rfl (Sub.cons rfl (Sub.cons rfl (Sub.cons rfl (Sub.cons rfl (Sub.nil _)))))))) ?_ ?_
                 ·exact ⟨hH516, by omega, fun h => decide_eq_true (heq (Classical.byContradiction fun hc => absurd (hf3 (by omega)) ‹¬ ff3 = true›))⟩
                 ·first | (dsimp only; omega) | (show _ < _; omega)
               ·skip
                have hO := S.rows_ord hRR (i := i1) (k := k1) (by omega) (by omega) (b1 : Int)
                have hco := S.checkOrder_iff.2 ⟨hjx, hO⟩
                have hlo1 : (nth RR (i1 : Int)).length = xs.length := hO.1
                have hlo2 : (nth RR (k1 : Int)).length = xs.length := hO.2.1
                have hlo3 := S.bitsTo_length (b1 : Int) xs.length
                have hns : ¬ ∃ p, S.SolP xs (nth RR (i1 : Int)) (nth RR (k1 : Int)) (S.bitsTo (b1 : Int) xs.length) p := ‹_›
                have hpy := (S.play_no hco hns).1
                have hnt : ¬ (ti = i1 ∧ tk = k1 ∧ tb = b1) := fun ⟨a, b, c⟩ => hns ⟨pt, by subst a b c; exact hpt⟩
                have hj2 : j1 = xs.length := by omega
                have hH517 := Heap.recast (n := 0) hH481 rfl (show _ = (S.bitsTo (b1 : Int) xs.length) from by rw [hj2])
                refine region (ops_y hH517 rfl rfl (yv_move rfl) ?_)
                refine ops_y hH517 rfl rfl (yv_loadA (cs := [(sv (nth TT (i1 : Int))), (sv (nth TT (k1 : Int))), v_b14]) T.agg41 rfl rfl (fun _ hw => Heap.cellsw hw (n := 1) rfl (k := 0) rfl)) ?_
                have hev520 : Fn Try.prog 32 [v5, (.agg #[(sv (nth TT (i1 : Int))), (sv (nth TT (k1 : Int))), v_b14])].toArray _ _ := c32 (h5.now hH517 (n := 2) rfl) ((hel i1 (by omega)).now hH517 (n := 2) rfl) ((hel k1 (by omega)).now hH517 (n := 2) rfl) (Heap.rdw T.el39_encI hH517 (n := 0) rfl) (by omega) (by omega) (by omega) (by omega)
                simp only [hpy] at hev520
                refine op_fn rfl rfl rfl hH517 (hev520) (fun u521 w518 lo522 hi523 hH519 hv524 => ?_)
                obtain ⟨p526, hu, -⟩ := hv524
                subst hu
                have hH525 := Heap.tup2 hH519 (n := 0) rfl
                refine ops_y hH525 rfl rfl (yv_move rfl) (ops_y hH525 rfl rfl (yv_extract rfl rfl) (ops_y hH525 rfl rfl (yv_extract rfl rfl) (ops_y hH525 rfl rfl (yv_assign rfl) (ops_y hH525 rfl rfl (yv_assign rfl) (ops_nil (thn_n (seq (seq (region ?_)))))))))
                refine ops_y hH525 rfl rfl (yv_move rfl) ?_
                refine ops_y hH525 rfl rfl (yv_castB rfl (yv_eql rfl rfl)) ?_
                refine ops_nil (thn_n ?_)
                refine cond_t rfl rfl ?_
                refine exit (thn_x (blk_here (thn_n (region (ops_y hH525 rfl rfl (yv_move rfl) ?_)))))
                refine ops_y hH525 rfl rfl (yv_add rfl rfl (by omega)) ?_
                refine ops_y hH525 rfl rfl (yv_assign rfl) (ops_nil ?_)
                have hH527 := (hH525.sub (List.Sublist.cons _ (List.Sublist.cons _ (List.Sublist.cons _ (List.Sublist.refl _)))))
                refine lp_n (b1 + 1, ff3) (Sub.cons rfl (Sub.cons rfl (Sub.cons rfl (Sub.cons rfl (Sub.cons rfl (Sub.cons rfl (Sub.cons rfl (Sub.nil _)))))))) ?_ ?_
                ·exact ⟨hH527, by omega, fun h => hf3 (by omega)⟩
                ·first | (dsimp only; omega) | (show _ < _; omega)
          ·skip
           refine cond_f rfl (decide_eq_false hc468) ?_
           refine exit (thn_x (lp_x (blk_here (blk_n (thn_n (region (ops_y hH467 rfl rfl (yv_move rfl) ?_)))))))
           refine ops_y hH467 rfl rfl (yv_add rfl rfl (by omega)) ?_
           refine ops_y hH467 rfl rfl (yv_assign rfl) (ops_nil ?_)
           refine lp_n (k1 + 1, ff3) (Sub.cons rfl (Sub.cons rfl (Sub.cons rfl (Sub.cons rfl (Sub.cons rfl (Sub.cons rfl (Sub.nil _))))))) ?_ ?_
           ·exact ⟨hH467, by omega, fun h => hf3 (by omega)⟩
           ·first | (dsimp only; omega) | (show _ < _; omega)
        ·skip
         refine cond_f rfl (decide_eq_false hc465) ?_
         refine exit (thn_x (lp_x (blk_here (blk_n (thn_n (region (ops_y hH464 rfl rfl (yv_move rfl) ?_)))))))
         refine ops_y hH464 rfl rfl (yv_add rfl rfl (by omega)) ?_
         refine ops_y hH464 rfl rfl (yv_assign rfl) (ops_nil ?_)
         refine lp_n (i1 + 1, ff2) (Sub.cons rfl (Sub.cons rfl (Sub.cons rfl (Sub.cons rfl (Sub.cons rfl (Sub.nil _)))))) ?_ ?_
         ·exact ⟨hH464, by omega, fun h => hf2 (by omega)⟩
         ·first | (dsimp only; omega) | (show _ < _; omega)
      ·skip
       have hff : ff = true := hf1 (by omega)
       refine cond_f rfl (decide_eq_false hc462) ?_
       refine exit (thn_x (lp_x (blk_here (thn_n (seq (region (ops_y hH461 rfl rfl (yv_move rfl) (ops_y hH461 rfl rfl (yv_move rfl) ?_))))))))
       have hc528 : ff = true := hff
       refine guard_yes rfl rfl hc528 ?_
       refine op_fnV rfl rfl rfl hH461 (c17) (fun w529 hH530 => ?_)
       refine ops_y hH530 rfl rfl (yv_pick_t rfl hc528 rfl) ?_
       refine ops_y hH530 rfl rfl (yv_assign rfl) (ops_nil (thn_n (ret ?_)))
       refine fin (Heap.unbase hH530 hbw) (fun w' hf => (res1 rfl (show RV _ _ _ (.tmp 4) _ from rfl))) (fun w' hf => ?_)
       rfl
 ·skip
  have hnj : ¬ S.Jobs js := ‹_›
  refine region (ops_y hH rfl rfl (yv_move rfl) ?_)
  refine op_fnV rfl rfl rfl hH (c41d (h0.now hH (n := 0) rfl)) (fun w531 hH532 => ?_)
  refine ops_y hH532 rfl rfl (yv_castB (bnot_t (decide_eq_false hc1)) (yv_not rfl)) ?_
  refine ops_nil (thn_n ?_)
  refine cond_t rfl rfl ?_
  refine seq (region ?_)
  refine op_fnV rfl rfl rfl hH532 (c17) (fun w533 hH534 => ?_)
  refine ops_y hH534 rfl rfl (yv_assign rfl) (ops_nil (thn_n (ret (thn_r ?_))))
  refine fin hH534 (fun w' hf => (res1 rfl (show RV _ _ _ (.tmp 4) _ from rfl))) (fun w' hf => ?_)
  rfl

end Go.Fip
