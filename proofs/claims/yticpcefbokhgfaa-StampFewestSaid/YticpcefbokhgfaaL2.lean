/- Walks, by program (wip/tools). -/
import Derived.Test.YticpcefbokhgfaaMJ
import Derived.Test.YticpcefbokhgfaaMI
set_option linter.unusedVariables false
set_option linter.unusedSimpArgs false
set_option linter.unusedSectionVars false
set_option linter.unnecessarySimpa false
namespace Go.Fip
open Go.Proofs Go.RowKit

theorem c8 {v vb : Value} {l bs : List Int} {w : World} (h0 : Rd encI 1 v l w) (hb : Rd encB 1 vb bs w) (hby : ∀ x ∈ bs, 0 ≤ x ∧ x ≤ 255)  :
    Fn Try.prog 8 [v, vb].toArray w (fun u _ => u = .bool true) := by
  refine fn_of' (args := [v, vb]) Try.func8 rfl (ent Try.func8 (by kernel_rfl) rfl) rfl rfl (fun hH => ?_)
  refine seq (region (ops_y hH rfl rfl (yv_assign rfl) (ops_nil (thn_n (seq (seq ?_))))))
  by_cases hc1 : S.J l
  · skip
    have hj : S.J l := ‹_›
    have hc0 : S.check l 0 = 0 := S.check_iff.2 hj
    have hl1 := hj.1
    have hl10 := hj.2.1
    obtain ⟨hea, heb, hec⟩ := S.exs_all hj
    have hex := S.ex2 hc0
    have hci := S.ci2 hc0
    have hcl := S.circles_len (l := l)
    have hcy := hj.cyc_le
    have hrl := S.right_length l.length
    have hrl2 : (S.right ((l.length : Int)).toNat).length = l.length := S.right_length _
    have hap : S.applyR l (S.exs l) = (S.right l.length, 0) := by rw [hj.apply hea (by omega), heb]
    obtain ⟨kk, hkk⟩ : ∃ kk, kk = (if 1 < l.length then min 30 (bs.length / 2) else 0) := ⟨_, rfl⟩
    have hkc : 1 < l.length ∨ kk = 0 := by rw [hkk]; split <;> omega
    obtain ⟨hpa, hpb, hpc⟩ := S.put_ok (bs := bs) hj hkc
    have hkb : kk ≤ 30 := by rw [hkk]; split <;> omega
    refine region (ops_y hH rfl rfl (yv_move rfl) ?_)
    refine op_fnV rfl rfl rfl hH (c56 (h0.now hH (n := 0) rfl)) (fun w2 hH3 => ?_)
    refine ops_y hH3 rfl rfl (yv_castB (bnot_f (decide_eq_true hc1)) (yv_not rfl)) ?_
    refine ops_y hH3 rfl rfl (yv_move rfl) (guard_yes rfl rfl rfl (ops_y hH3 rfl rfl (yv_move rfl) (guard_yes rfl rfl rfl ?_)))
    refine ops_y hH3 rfl rfl (yv_len T.sl53 rfl ((hb.now hH3 (n := 0) rfl)).is) ?_
    refine guard_yes rfl rfl rfl ?_
    refine ops_y hH3 rfl rfl (yv_gtr rfl rfl) ?_
    refine ops_y hH3 rfl rfl (yv_pick_f rfl rfl rfl) ?_
    refine ops_nil (thn_n ?_)
    by_cases hc4 : 60 < (bs.length : Int)
    · skip
      refine cond_t rfl (decide_eq_true hc4) ?_
      refine seq (region ?_)
      refine op_fnV rfl rfl rfl hH3 (c18) (fun w5 hH6 => ?_)
      refine ops_y hH6 rfl rfl (yv_assign rfl) (ops_nil (thn_n (ret (thn_r ?_))))
      refine fin hH6 (fun w' hf => (res1 rfl (show RV _ _ _ (.tmp 4) _ from rfl))) (fun w' hf => ?_)
      rfl
    · skip
      refine cond_f rfl (decide_eq_false hc4) ?_
      refine skip (thn_n (seq (region (ops_y hH3 rfl rfl (yv_move rfl) ?_))))
      refine op_fn rfl rfl rfl hH3 ((by have h := c29 (h0.now hH3 (n := 0) rfl) (by omega); simp only [hex] at h; exact h)) (fun u9 w7 lo10 hi11 hH8 hv12 => ?_)
      obtain ⟨p14, hu, -⟩ := hv12
      subst hu
      have hH13 := Heap.tup2 hH8 (n := 0) rfl
      refine ops_y hH13 rfl rfl (yv_move rfl) (ops_y hH13 rfl rfl (yv_extract rfl rfl) (ops_y hH13 rfl rfl (yv_extract rfl rfl) (ops_y hH13 rfl rfl (yv_assign rfl) (ops_y hH13 rfl rfl (yv_assign rfl) (ops_nil (thn_n (seq (region (ops_y hH13 rfl rfl (yv_move rfl) ?_)))))))))
      refine op_fn rfl rfl rfl hH13 ((by have h := c19 (h0.now hH13 (n := 1) rfl) (by omega); simp only [hci] at h; exact h)) (fun u17 w15 lo18 hi19 hH16 hv20 => ?_)
      obtain ⟨p23, hu, -⟩ := hv20
      subst hu
      obtain ⟨TT21, hH22⟩ := Heap.tupRows hH16 (n := 0) rfl
      have hTl24 := (show RowsAt p23 TT21 (S.circles l) _ from hH22.get (n := 0) rfl).2.1
      refine ops_y hH22 rfl rfl (yv_move rfl) (ops_y hH22 rfl rfl (yv_extract rfl rfl) (ops_y hH22 rfl rfl (yv_extract rfl rfl) (ops_y hH22 rfl rfl (yv_assign rfl) (ops_y hH22 rfl rfl (yv_assign rfl) (ops_nil (thn_n (seq (seq (region ?_)))))))))
      refine ops_y hH22 rfl rfl (yv_move rfl) ?_
      refine ops_y hH22 rfl rfl (yv_castB rfl (yv_neq rfl rfl)) ?_
      refine ops_y hH22 rfl rfl (yv_move rfl) (guard_yes rfl rfl rfl (ops_y hH22 rfl rfl (yv_move rfl) (guard_yes rfl rfl rfl ?_)))
      refine ops_y hH22 rfl rfl (yv_castB rfl (yv_neq rfl rfl)) ?_
      refine ops_y hH22 rfl rfl (yv_pick_f rfl rfl rfl) ?_
      refine ops_y hH22 rfl rfl (yv_move rfl) (guard_yes rfl rfl rfl (ops_y hH22 rfl rfl (yv_move rfl) (guard_yes rfl rfl rfl ?_)))
      refine ops_y hH22 rfl rfl (yv_len T.sl29 rfl (Heap.rdw T.el29_encP hH22 (n := 1) rfl).is) ?_
      refine guard_yes rfl rfl rfl (ops_y hH22 rfl rfl (yv_move rfl) (guard_yes rfl rfl rfl ?_))
      refine ops_y hH22 rfl rfl (yv_len T.sl22 rfl (h0.now hH22 (n := 2) rfl).is) ?_
      refine guard_yes rfl rfl rfl (ops_y hH22 rfl rfl (yv_move rfl) (guard_yes rfl rfl rfl ?_))
      refine ops_y hH22 rfl rfl (yv_len T.sl25 rfl (((show RowsAt p23 TT21 (S.circles l) _ from hH22.get (n := 0) rfl)).1).is) ?_
      refine guard_yes rfl rfl rfl ?_
      refine ops_y hH22 rfl rfl (yv_sub rfl rfl (by omega)) ?_
      refine guard_yes rfl rfl rfl ?_
      refine ops_y hH22 rfl rfl (yv_neq rfl rfl) ?_
      refine ops_y hH22 rfl rfl (yv_pick_f rfl rfl rfl) ?_
      refine ops_nil (thn_n ?_)
      have hc25 : ¬ (¬ (((S.exs l).length : Int) = ((l.length : Int) - (TT21.length : Int)))) := by omega
      refine cond_f rfl (not_decide_f hc25) ?_
      refine skip (thn_n (seq (region (ops_y hH22 rfl rfl (yv_move rfl) (ops_y hH22 rfl rfl (yv_move rfl) ?_)))))
      refine op_fn rfl rfl rfl hH22 ((by have h := c27 (h0.now hH22 (n := 2) rfl) (Heap.rdw T.el29_encP hH22 (n := 1) rfl) (by omega) (by omega); simp only [hap] at h; exact h)) (fun u28 w26 lo29 hi30 hH27 hv31 => ?_)
      obtain ⟨p33, hu, -⟩ := hv31
      subst hu
      have hH32 := Heap.tup2 hH27 (n := 0) rfl
      refine ops_y hH32 rfl rfl (yv_move rfl) (ops_y hH32 rfl rfl (yv_extract rfl rfl) (ops_y hH32 rfl rfl (yv_extract rfl rfl) (ops_y hH32 rfl rfl (yv_assign rfl) (ops_y hH32 rfl rfl (yv_assign rfl) (ops_nil (thn_n (seq (region (ops_y hH32 rfl rfl (yv_move rfl) ?_)))))))))
      refine ops_y hH32 rfl rfl (yv_move rfl) ?_
      refine op_fn rfl rfl rfl hH32 ((by have h := c57 (h0.now hH32 (n := 3) rfl) ((hb.now hH32 (n := 3) rfl)) hj hby (by omega); rw [← hkk] at h; exact h)) (fun u36 w34 lo37 hi38 hH35 hv39 => ?_)
      have hH40 := Heap.toOw hH35 (n := 0) rfl
      refine ops_y hH40 rfl rfl (yv_assign rfl) (ops_nil (thn_n (seq (seq (region (ops_y hH40 rfl rfl (yv_move rfl) ?_))))))
      refine ops_y hH40 rfl rfl (yv_castB rfl (yv_neq rfl rfl)) ?_
      refine ops_y hH40 rfl rfl (yv_move rfl) (guard_yes rfl rfl rfl (ops_y hH40 rfl rfl (yv_move rfl) (guard_yes rfl rfl rfl (ops_y hH40 rfl rfl (yv_move rfl) (guard_yes rfl rfl rfl ?_)))))
      refine ops_y hH40 rfl rfl (yv_len T.sl22 rfl (h0.now hH40 (n := 4) rfl).is) ?_
      refine guard_yes rfl rfl rfl ?_
      refine op_fn rfl rfl rfl hH40 (c58 (by omega) (by omega)) (fun u43 w41 lo44 hi45 hH42 hv46 => ?_)
      have hH47 := Heap.toOw hH42 (n := 0) rfl
      refine guard_yes rfl rfl rfl ?_
      refine op_fnV rfl rfl rfl hH47 (c33 (Heap.rdw T.el22_encI hH47 (n := 2) rfl) (Heap.rdw T.el22_encI hH47 (n := 0) rfl) (by omega) (by omega)) (fun w48 hH49 => ?_)
      refine guard_yes rfl rfl rfl ?_
      refine ops_y hH49 rfl rfl (yv_castB (bnot_f (decide_eq_true rfl)) (yv_not rfl)) ?_
      refine ops_y hH49 rfl rfl (yv_pick_f rfl rfl rfl) ?_
      refine ops_y hH49 rfl rfl (yv_move rfl) (guard_yes rfl rfl rfl (ops_y hH49 rfl rfl (yv_move rfl) (guard_yes rfl rfl rfl ?_)))
      refine ops_y hH49 rfl rfl (yv_len T.sl29 rfl (Heap.rdw T.el29_encP hH49 (n := 1) rfl).is) ?_
      refine guard_yes rfl rfl rfl ?_
      refine ops_y hH49 rfl rfl (yv_gtr rfl rfl) ?_
      refine ops_y hH49 rfl rfl (yv_pick_f rfl rfl rfl) ?_
      refine ops_nil (thn_n ?_)
      by_cases hc50 : 60 < ((S.put l bs kk).length : Int)
      · skip
        refine cond_t rfl (decide_eq_true hc50) ?_
        refine seq (region (ops_y hH49 rfl rfl (yv_move rfl) ?_))
        refine ops_y hH49 rfl rfl (yv_castB rfl (yv_eql rfl rfl)) ?_
        refine ops_y hH49 rfl rfl (yv_move rfl) (guard_yes rfl rfl rfl (ops_y hH49 rfl rfl (yv_move rfl) (guard_yes rfl rfl rfl (ops_y hH49 rfl rfl (yv_move rfl) (guard_yes rfl rfl rfl ?_)))))
        refine ops_y hH49 rfl rfl (yv_len T.sl22 rfl (h0.now hH49 (n := 5) rfl).is) ?_
        refine guard_yes rfl rfl rfl ?_
        refine op_fn rfl rfl rfl hH49 (c58 (by omega) (by omega)) (fun u53 w51 lo54 hi55 hH52 hv56 => ?_)
        have hH57 := Heap.toOw hH52 (n := 0) rfl
        refine guard_yes rfl rfl rfl ?_
        refine op_fnV rfl rfl rfl hH57 (c33 (Heap.rdw T.el22_encI hH57 (n := 3) rfl) (Heap.rdw T.el22_encI hH57 (n := 0) rfl) (by omega) (by omega)) (fun w58 hH59 => ?_)
        refine ops_y hH59 rfl rfl (yv_pick_t rfl rfl rfl) ?_
        refine ops_y hH59 rfl rfl (yv_move rfl) ?_
        refine guard_yes rfl rfl (decide_eq_true rfl) ?_
        refine op_fnV rfl rfl rfl hH59 (c18) (fun w60 hH61 => ?_)
        refine ops_y hH61 rfl rfl (yv_pick_t rfl (decide_eq_true rfl) rfl) ?_
        refine ops_y hH61 rfl rfl (yv_assign rfl) (ops_nil (thn_n (ret (thn_r ?_))))
        have hH62 := (hH61.sub (List.Sublist.cons _ (List.Sublist.cons _ (List.Sublist.cons _ (List.Sublist.cons _ (List.Sublist.cons _ (List.Sublist.cons _ (List.Sublist.refl _))))))))
        refine fin hH62 (fun w' hf => (res1 rfl (show RV _ _ _ (.tmp 4) _ from rfl))) (fun w' hf => ?_)
        rfl
      · skip
        refine cond_f rfl (decide_eq_false hc50) ?_
        refine skip (thn_n (seq ?_))
        have hpl60 : (S.put l bs kk).length ≤ 60 := by omega
        have hao : S.applyR l (S.put l bs kk) = (S.right l.length, 0) := by rw [hj.apply hpa hpl60, hpb]
        have hfw := hj.fewest hpa hpb
        refine region (ops_y hH49 rfl rfl (yv_move rfl) (ops_y hH49 rfl rfl (yv_move rfl) ?_))
        refine op_fn rfl rfl rfl hH49 ((by have h := c27 (h0.now hH49 (n := 5) rfl) (Heap.rdw T.el29_encP hH49 (n := 1) rfl) (by omega) (by omega); simp only [hao] at h; exact h)) (fun u65 w63 lo66 hi67 hH64 hv68 => ?_)
        obtain ⟨p70, hu, -⟩ := hv68
        subst hu
        have hH69 := Heap.tup2 hH64 (n := 0) rfl
        refine ops_y hH69 rfl rfl (yv_move rfl) (ops_y hH69 rfl rfl (yv_extract rfl rfl) (ops_y hH69 rfl rfl (yv_extract rfl rfl) (ops_y hH69 rfl rfl (yv_assign rfl) (ops_y hH69 rfl rfl (yv_assign rfl) (ops_nil (thn_n (seq (seq (region ?_)))))))))
        refine ops_y hH69 rfl rfl (yv_move rfl) ?_
        refine ops_y hH69 rfl rfl (yv_castB rfl (yv_neq rfl rfl)) ?_
        refine ops_y hH69 rfl rfl (yv_move rfl) (guard_yes rfl rfl rfl (ops_y hH69 rfl rfl (yv_move rfl) (guard_yes rfl rfl rfl (ops_y hH69 rfl rfl (yv_move rfl) (guard_yes rfl rfl rfl ?_)))))
        refine op_fnV rfl rfl rfl hH69 (c33 (Heap.rdw T.el22_encI hH69 (n := 0) rfl) (Heap.rdw T.el22_encI hH69 (n := 3) rfl) (by omega) (by omega)) (fun w71 hH72 => ?_)
        refine guard_yes rfl rfl rfl ?_
        refine ops_y hH72 rfl rfl (yv_castB (bnot_f (decide_eq_true rfl)) (yv_not rfl)) ?_
        refine ops_y hH72 rfl rfl (yv_pick_f rfl rfl rfl) ?_
        refine ops_y hH72 rfl rfl (yv_move rfl) (guard_yes rfl rfl rfl (ops_y hH72 rfl rfl (yv_move rfl) (guard_yes rfl rfl rfl ?_)))
        refine ops_y hH72 rfl rfl (yv_len T.sl29 rfl (Heap.rdw T.el29_encP hH72 (n := 2) rfl).is) ?_
        refine guard_yes rfl rfl rfl (ops_y hH72 rfl rfl (yv_move rfl) (guard_yes rfl rfl rfl ?_))
        refine ops_y hH72 rfl rfl (yv_len T.sl29 rfl (Heap.rdw T.el29_encP hH72 (n := 5) rfl).is) ?_
        refine guard_yes rfl rfl rfl ?_
        refine ops_y hH72 rfl rfl (yv_lss rfl rfl) ?_
        refine ops_y hH72 rfl rfl (yv_pick_f rfl rfl rfl) ?_
        refine ops_y hH72 rfl rfl (yv_move rfl) ?_
        have hc73 : ¬ (((S.put l bs kk).length : Int) < ((S.exs l).length : Int)) := by omega
        refine guard_yes rfl rfl (decide_eq_false hc73) ?_
        refine ops_y hH72 rfl rfl (yv_move rfl) ?_
        refine guard_yes rfl rfl (decide_eq_false hc73) ?_
        refine ops_y hH72 rfl rfl (yv_len T.sl29 rfl (Heap.rdw T.el29_encP hH72 (n := 2) rfl).is) ?_
        refine guard_yes rfl rfl (decide_eq_false hc73) ?_
        refine ops_y hH72 rfl rfl (yv_move rfl) ?_
        refine guard_yes rfl rfl (decide_eq_false hc73) ?_
        refine ops_y hH72 rfl rfl (yv_len T.sl29 rfl (Heap.rdw T.el29_encP hH72 (n := 5) rfl).is) ?_
        refine guard_yes rfl rfl (decide_eq_false hc73) ?_
        refine ops_y hH72 rfl rfl (yv_sub rfl rfl (by omega)) ?_
        refine guard_yes rfl rfl (decide_eq_false hc73) ?_
        refine ops_y hH72 rfl rfl (yv_rem rfl rfl (by omega) (by omega)) ?_
        refine guard_yes rfl rfl (decide_eq_false hc73) ?_
        refine ops_y hH72 rfl rfl (yv_neq rfl rfl) ?_
        refine ops_y hH72 rfl rfl (yv_pick_f rfl (decide_eq_false hc73) rfl) ?_
        refine ops_nil (thn_n ?_)
        have hc74 : ¬ (¬ (((((S.put l bs kk).length : Int) - ((S.exs l).length : Int)) % 2) = 0)) := by omega
        refine cond_f rfl (not_decide_f hc74) ?_
        refine skip (thn_n (seq (seq (region (ops_y hH72 rfl rfl (yv_assign rfl) (ops_nil (thn_n (block ?_))))))))
        refine loop (S := Nat) (fun k => [(12, (.int .i64 (k : Int))), (0, v), (10, u36)]) (fun k w1 => Heap [ow lo66 hi67 3 1 encI p70 (S.right l.length), ow lo44 hi45 3 1 encI u43 (S.right l.length), ow lo37 hi38 70 2 encP u36 (S.put l bs kk), ow lo29 hi30 3 1 encI p33 (S.right l.length), ⟨lo18, hi19, RowsAt p23 TT21 (S.circles l)⟩, ow lo10 hi11 70 2 encP p14 (S.exs l), base w] w1 ∧ k ≤ 3) (fun k => 3 - k) (0) (Sub.cons rfl (Sub.cons rfl (Sub.cons rfl (Sub.nil _)))) ?_ ?_
        · exact ⟨hH72, by omega⟩
        · rintro k w75 ⟨hH76, hk⟩
          show Holds _ _ _ _ _ [(12, (.int .i64 (k : Int))), (0, v), (10, u36)] _ _
          refine seq (seq (region (ops_y hH76 rfl rfl (yv_move rfl) (ops_y hH76 rfl rfl (yv_move rfl) ?_))))
          refine ops_y hH76 rfl rfl (yv_len T.sl29 rfl (Heap.rdw T.el29_encP hH76 (n := 2) rfl).is) ?_
          refine ops_y hH76 rfl rfl (yv_lss rfl rfl) ?_
          refine ops_y hH76 rfl rfl (yv_move rfl) ?_
          by_cases hc77 : (k : Int) < ((S.put l bs kk).length : Int)
          · skip
            refine guard_yes rfl rfl (decide_eq_true hc77) ?_
            refine ops_y hH76 rfl rfl (yv_move rfl) ?_
            refine guard_yes rfl rfl (decide_eq_true hc77) ?_
            refine ops_y hH76 rfl rfl (yv_lss rfl rfl) ?_
            refine ops_y hH76 rfl rfl (yv_pick_t rfl (decide_eq_true hc77) rfl) ?_
            refine ops_nil (thn_n ?_)
            by_cases hc78 : (k : Int) < 3
            · skip
              refine cond_t rfl (decide_eq_true hc78) ?_
              refine skip (thn_n (seq (block (seq ?_))))
              have htk : ((k : Int) + 1).toNat = k + 1 := by omega
              have hz1 : S.applyR l ((S.put l bs kk).take ((k : Int) + 1).toNat) = (S.apl l ((S.put l bs kk).take ((k : Int) + 1).toNat), 0) := hj.apply (hpa.take _) (by rw [List.length_take]; omega)
              have hz0 : S.applyR l ((S.put l bs kk).take ((k : Int)).toNat) = (S.apl l ((S.put l bs kk).take ((k : Int)).toNat), 0) := hj.apply (hpa.take _) (by rw [List.length_take]; omega)
              have hj1 : S.J (S.apl l ((S.put l bs kk).take ((k : Int) + 1).toNat)) := (hj.apl (hpa.take _)).1
              have hj0 : S.J (S.apl l ((S.put l bs kk).take ((k : Int)).toNat)) := (hj.apl (hpa.take _)).1
              have hm1 : (S.apl l ((S.put l bs kk).take ((k : Int) + 1).toNat)).length = l.length := S.apl_length
              have hm0 : (S.apl l ((S.put l bs kk).take ((k : Int)).toNat)).length = l.length := S.apl_length
              have hci1 := S.ci2 (S.check_iff.2 hj1)
              have hci0 := S.ci2 (S.check_iff.2 hj0)
              have hcc1 := S.circles_len (l := S.apl l ((S.put l bs kk).take ((k : Int) + 1).toNat))
              have hcc0 := S.circles_len (l := S.apl l ((S.put l bs kk).take ((k : Int)).toNat))
              have hcy1 := hj1.cyc_le
              have hcy0 := hj0.cyc_le
              have htt : ((S.put l bs kk).take ((k : Int) + 1).toNat).length ≤ (S.put l bs kk).length := by rw [List.length_take]; omega
              have htt0 : ((S.put l bs kk).take ((k : Int)).toNat).length ≤ (S.put l bs kk).length := by rw [List.length_take]; omega
              have hpm : S.cyc (S.apl l ((S.put l bs kk).take ((k : Int) + 1).toNat)) = S.cyc (S.apl l ((S.put l bs kk).take ((k : Int)).toNat)) + 1 ∨ S.cyc (S.apl l ((S.put l bs kk).take ((k : Int) + 1).toNat)) + 1 = S.cyc (S.apl l ((S.put l bs kk).take ((k : Int)).toNat)) := by
                rw [htk, show ((k : Int)).toNat = k from rfl]
                exact hj.takes hpa (by omega)
              refine region (ops_y hH76 rfl rfl (yv_move rfl) (ops_y hH76 rfl rfl (yv_move rfl) (ops_y hH76 rfl rfl (yv_move rfl) ?_)))
              refine ops_y hH76 rfl rfl (yv_add rfl rfl (by omega)) ?_
              refine ops_y hH76 rfl rfl (yv_cut_hi T.sl29 rfl rfl (Heap.rdw T.el29_encP hH76 (n := 2) rfl).is (by omega)) ?_
              refine op_fn rfl rfl rfl hH76 ((by have h := c27 (h0.now hH76 (n := 6) rfl) (Rd.upto (Heap.rdw T.el29_encP hH76 (n := 2) rfl) (hi := ((k : Int) + 1).toNat) (by omega)) (by omega) (by omega); simp only [hz1] at h; exact h)) (fun u81 w79 lo82 hi83 hH80 hv84 => ?_)
              obtain ⟨p86, hu, -⟩ := hv84
              subst hu
              have hH85 := Heap.tup2 hH80 (n := 0) rfl
              refine ops_y hH85 rfl rfl (yv_move rfl) (ops_y hH85 rfl rfl (yv_extract rfl rfl) (ops_y hH85 rfl rfl (yv_extract rfl rfl) (ops_y hH85 rfl rfl (yv_assign rfl) (ops_y hH85 rfl rfl (yv_assign rfl) (ops_nil (thn_n (seq (seq (region ?_)))))))))
              refine ops_y hH85 rfl rfl (yv_move rfl) ?_
              refine ops_y hH85 rfl rfl (yv_castB rfl (yv_neq rfl rfl)) ?_
              refine ops_y hH85 rfl rfl (yv_move rfl) (guard_yes rfl rfl rfl (ops_y hH85 rfl rfl (yv_move rfl) (guard_yes rfl rfl rfl ?_)))
              refine op_fnV rfl rfl rfl hH85 (c56 (Heap.rdw T.el22_encI hH85 (n := 0) rfl)) (fun w87 hH88 => ?_)
              refine guard_yes rfl rfl rfl ?_
              refine ops_y hH88 rfl rfl (yv_not rfl) ?_
              refine ops_y hH88 rfl rfl (yv_pick_f rfl rfl rfl) ?_
              refine ops_nil (thn_n ?_)
              have hc89 : ¬ (¬ (S.J (S.apl l ((S.put l bs kk).take ((k : Int) + 1).toNat)))) := fun h => h hj1
              refine cond_f rfl (not_decide_f hc89) ?_
              refine skip (thn_n (seq (region (ops_y hH88 rfl rfl (yv_move rfl) ?_))))
              refine op_fn rfl rfl rfl hH88 ((by have h := c19 (Heap.rdw T.el22_encI hH88 (n := 0) rfl) (by omega); simp only [hci1] at h; exact h)) (fun u92 w90 lo93 hi94 hH91 hv95 => ?_)
              obtain ⟨p98, hu, -⟩ := hv95
              subst hu
              obtain ⟨TT96, hH97⟩ := Heap.tupRows hH91 (n := 0) rfl
              have hTl99 := (show RowsAt p98 TT96 (S.circles (S.apl l ((S.put l bs kk).take ((k : Int) + 1).toNat))) _ from hH97.get (n := 0) rfl).2.1
              refine ops_y hH97 rfl rfl (yv_move rfl) (ops_y hH97 rfl rfl (yv_extract rfl rfl) (ops_y hH97 rfl rfl (yv_extract rfl rfl) (ops_y hH97 rfl rfl (yv_assign rfl) (ops_y hH97 rfl rfl (yv_assign rfl) (ops_nil (thn_n (seq (region (ops_y hH97 rfl rfl (yv_move rfl) ?_)))))))))
              refine ops_y hH97 rfl rfl (yv_move rfl) (ops_y hH97 rfl rfl (yv_move rfl) ?_)
              refine ops_y hH97 rfl rfl (yv_cut_hi T.sl29 rfl rfl (Heap.rdw T.el29_encP hH97 (n := 4) rfl).is (by omega)) ?_
              refine op_fn rfl rfl rfl hH97 ((by have h := c27 (h0.now hH97 (n := 8) rfl) (Rd.upto (Heap.rdw T.el29_encP hH97 (n := 4) rfl) (hi := (k : Int).toNat) (by omega)) (by omega) (by omega); simp only [hz0] at h; exact h)) (fun u102 w100 lo103 hi104 hH101 hv105 => ?_)
              obtain ⟨p107, hu, -⟩ := hv105
              subst hu
              have hH106 := Heap.tup2 hH101 (n := 0) rfl
              refine ops_y hH106 rfl rfl (yv_move rfl) (ops_y hH106 rfl rfl (yv_extract rfl rfl) (ops_y hH106 rfl rfl (yv_extract rfl rfl) (ops_y hH106 rfl rfl (yv_assign rfl) (ops_y hH106 rfl rfl (yv_assign rfl) (ops_nil (thn_n (seq (seq (region ?_)))))))))
              refine ops_y hH106 rfl rfl (yv_move rfl) ?_
              refine ops_y hH106 rfl rfl (yv_castB rfl (yv_neq rfl rfl)) ?_
              refine ops_y hH106 rfl rfl (yv_move rfl) (guard_yes rfl rfl rfl (ops_y hH106 rfl rfl (yv_move rfl) (guard_yes rfl rfl rfl ?_)))
              refine ops_y hH106 rfl rfl (yv_castB rfl (yv_neq rfl rfl)) ?_
              refine ops_y hH106 rfl rfl (yv_pick_f rfl rfl rfl) ?_
              refine ops_y hH106 rfl rfl (yv_move rfl) (guard_yes rfl rfl rfl (ops_y hH106 rfl rfl (yv_move rfl) (guard_yes rfl rfl rfl ?_)))
              refine op_fnV rfl rfl rfl hH106 (c56 (Heap.rdw T.el22_encI hH106 (n := 0) rfl)) (fun w108 hH109 => ?_)
              refine guard_yes rfl rfl rfl ?_
              refine ops_y hH109 rfl rfl (yv_not rfl) ?_
              refine ops_y hH109 rfl rfl (yv_pick_f rfl rfl rfl) ?_
              refine ops_nil (thn_n ?_)
              have hc110 : ¬ (¬ (S.J (S.apl l ((S.put l bs kk).take ((k : Int)).toNat)))) := fun h => h hj0
              refine cond_f rfl (not_decide_f hc110) ?_
              refine skip (thn_n (seq (region (ops_y hH109 rfl rfl (yv_move rfl) ?_))))
              refine op_fn rfl rfl rfl hH109 ((by have h := c19 (Heap.rdw T.el22_encI hH109 (n := 0) rfl) (by omega); simp only [hci0] at h; exact h)) (fun u113 w111 lo114 hi115 hH112 hv116 => ?_)
              obtain ⟨p119, hu, -⟩ := hv116
              subst hu
              obtain ⟨TT117, hH118⟩ := Heap.tupRows hH112 (n := 0) rfl
              have hTl120 := (show RowsAt p119 TT117 (S.circles (S.apl l ((S.put l bs kk).take ((k : Int)).toNat))) _ from hH118.get (n := 0) rfl).2.1
              refine ops_y hH118 rfl rfl (yv_move rfl) (ops_y hH118 rfl rfl (yv_extract rfl rfl) (ops_y hH118 rfl rfl (yv_extract rfl rfl) (ops_y hH118 rfl rfl (yv_assign rfl) (ops_y hH118 rfl rfl (yv_assign rfl) (ops_nil (thn_n (seq (region (ops_y hH118 rfl rfl (yv_move rfl) ?_)))))))))
              refine ops_y hH118 rfl rfl (yv_castB rfl (yv_neq rfl rfl)) ?_
              refine ops_y hH118 rfl rfl (yv_move rfl) (guard_yes rfl rfl rfl (ops_y hH118 rfl rfl (yv_move rfl) (guard_yes rfl rfl rfl ?_)))
              refine ops_y hH118 rfl rfl (yv_len T.sl25 rfl (((show RowsAt p98 TT96 (S.circles (S.apl l ((S.put l bs kk).take ((k : Int) + 1).toNat))) _ from hH118.get (n := 2) rfl)).1).is) ?_
              refine guard_yes rfl rfl rfl (ops_y hH118 rfl rfl (yv_move rfl) (guard_yes rfl rfl rfl ?_))
              refine ops_y hH118 rfl rfl (yv_len T.sl25 rfl (((show RowsAt p119 TT117 (S.circles (S.apl l ((S.put l bs kk).take ((k : Int)).toNat))) _ from hH118.get (n := 0) rfl)).1).is) ?_
              refine guard_yes rfl rfl rfl ?_
              refine ops_y hH118 rfl rfl (yv_add rfl rfl (by omega)) ?_
              refine guard_yes rfl rfl rfl ?_
              refine ops_y hH118 rfl rfl (yv_neq rfl rfl) ?_
              refine guard_yes rfl rfl rfl (ops_y hH118 rfl rfl (yv_move rfl) ?_)
              by_cases hc121 : (TT96.length : Int) = ((TT117.length : Int) + 1)
              · skip
                refine guard_no rfl rfl (not_decide_n hc121) rfl ?_
                refine guard_no rfl rfl (not_decide_n hc121) rfl ?_
                refine guard_no rfl rfl (not_decide_n hc121) rfl ?_
                refine guard_no rfl rfl (not_decide_n hc121) rfl ?_
                refine guard_no rfl rfl (not_decide_n hc121) rfl ?_
                refine guard_no rfl rfl (not_decide_n hc121) rfl ?_
                refine guard_yes rfl rfl rfl ?_
                refine ops_y hH118 rfl rfl (yv_pick_f rfl (not_decide_n hc121) rfl) ?_
                refine ops_y hH118 rfl rfl (yv_pick_f rfl rfl rfl) ?_
                refine ops_nil (thn_n ?_)
                refine cond_f rfl rfl ?_
                refine skip (blk_n (thn_n (region (ops_y hH118 rfl rfl (yv_move rfl) ?_))))
                refine ops_y hH118 rfl rfl (yv_add rfl rfl (by omega)) ?_
                refine ops_y hH118 rfl rfl (yv_assign rfl) (ops_nil ?_)
                have hH122 := (hH118.sub (List.Sublist.cons _ (List.Sublist.cons _ (List.Sublist.cons _ (List.Sublist.cons _ (List.Sublist.refl _))))))
                refine lp_n (k + 1) (Sub.cons rfl (Sub.cons rfl (Sub.cons rfl (Sub.nil _)))) ?_ ?_
                · exact ⟨hH122, by omega⟩
                · first | (dsimp only; omega) | (show _ < _; omega)
              · skip
                refine guard_yes rfl rfl (not_decide_t hc121) ?_
                refine ops_y hH118 rfl rfl (yv_move rfl) ?_
                refine guard_yes rfl rfl (not_decide_t hc121) ?_
                refine ops_y hH118 rfl rfl (yv_len T.sl25 rfl (((show RowsAt p98 TT96 (S.circles (S.apl l ((S.put l bs kk).take ((k : Int) + 1).toNat))) _ from hH118.get (n := 2) rfl)).1).is) ?_
                refine guard_yes rfl rfl (not_decide_t hc121) ?_
                refine ops_y hH118 rfl rfl (yv_move rfl) ?_
                refine guard_yes rfl rfl (not_decide_t hc121) ?_
                refine ops_y hH118 rfl rfl (yv_len T.sl25 rfl (((show RowsAt p119 TT117 (S.circles (S.apl l ((S.put l bs kk).take ((k : Int)).toNat))) _ from hH118.get (n := 0) rfl)).1).is) ?_
                refine guard_yes rfl rfl (not_decide_t hc121) ?_
                refine ops_y hH118 rfl rfl (yv_sub rfl rfl (by omega)) ?_
                refine guard_yes rfl rfl (not_decide_t hc121) ?_
                refine ops_y hH118 rfl rfl (yv_neq rfl rfl) ?_
                refine guard_yes rfl rfl rfl ?_
                refine ops_y hH118 rfl rfl (yv_pick_t rfl (not_decide_t hc121) rfl) ?_
                refine ops_y hH118 rfl rfl (yv_pick_f rfl rfl rfl) ?_
                refine ops_nil (thn_n ?_)
                have hc123 : ¬ (¬ ((TT96.length : Int) = ((TT117.length : Int) - 1))) := by omega
                refine cond_f rfl (not_decide_f hc123) ?_
                refine skip (blk_n (thn_n (region (ops_y hH118 rfl rfl (yv_move rfl) ?_))))
                refine ops_y hH118 rfl rfl (yv_add rfl rfl (by omega)) ?_
                refine ops_y hH118 rfl rfl (yv_assign rfl) (ops_nil ?_)
                have hH124 := (hH118.sub (List.Sublist.cons _ (List.Sublist.cons _ (List.Sublist.cons _ (List.Sublist.cons _ (List.Sublist.refl _))))))
                refine lp_n (k + 1) (Sub.cons rfl (Sub.cons rfl (Sub.cons rfl (Sub.nil _)))) ?_ ?_
                · exact ⟨hH124, by omega⟩
                · first | (dsimp only; omega) | (show _ < _; omega)
            · skip
              refine cond_f rfl (decide_eq_false hc78) ?_
              refine exit (thn_x (lp_x (blk_here (thn_n (seq (region ?_))))))
              refine op_fnV rfl rfl rfl hH76 (c18) (fun w125 hH126 => ?_)
              refine ops_y hH126 rfl rfl (yv_assign rfl) (ops_nil (thn_n (ret ?_)))
              have hH127 := (hH126.sub (List.Sublist.cons _ (List.Sublist.cons _ (List.Sublist.cons _ (List.Sublist.cons _ (List.Sublist.cons _ (List.Sublist.cons _ (List.Sublist.refl _))))))))
              refine fin hH127 (fun w' hf => (res1 rfl (show RV _ _ _ (.tmp 4) _ from rfl))) (fun w' hf => ?_)
              rfl
          · skip
            refine guard_no rfl rfl (decide_eq_false hc77) rfl ?_
            refine guard_no rfl rfl (decide_eq_false hc77) rfl ?_
            refine ops_y hH76 rfl rfl (yv_pick_f rfl (decide_eq_false hc77) rfl) ?_
            refine ops_nil (thn_n ?_)
            refine cond_f rfl rfl ?_
            refine exit (thn_x (lp_x (blk_here (thn_n (seq (region ?_))))))
            refine op_fnV rfl rfl rfl hH76 (c18) (fun w128 hH129 => ?_)
            refine ops_y hH129 rfl rfl (yv_assign rfl) (ops_nil (thn_n (ret ?_)))
            have hH130 := (hH129.sub (List.Sublist.cons _ (List.Sublist.cons _ (List.Sublist.cons _ (List.Sublist.cons _ (List.Sublist.cons _ (List.Sublist.cons _ (List.Sublist.refl _))))))))
            refine fin hH130 (fun w' hf => (res1 rfl (show RV _ _ _ (.tmp 4) _ from rfl))) (fun w' hf => ?_)
            rfl
  · skip
    have hnj : ¬ S.J l := ‹_›
    refine region (ops_y hH rfl rfl (yv_move rfl) ?_)
    refine op_fnV rfl rfl rfl hH (c56 (h0.now hH (n := 0) rfl)) (fun w131 hH132 => ?_)
    refine ops_y hH132 rfl rfl (yv_castB (bnot_t (decide_eq_false hc1)) (yv_not rfl)) ?_
    refine ops_y hH132 rfl rfl (yv_move rfl) (guard_no rfl rfl rfl rfl (guard_no rfl rfl rfl rfl (guard_no rfl rfl rfl rfl ?_)))
    refine ops_y hH132 rfl rfl (yv_pick_t rfl rfl rfl) ?_
    refine ops_nil (thn_n ?_)
    refine cond_t rfl rfl ?_
    refine seq (region ?_)
    refine op_fnV rfl rfl rfl hH132 (c18) (fun w133 hH134 => ?_)
    refine ops_y hH134 rfl rfl (yv_assign rfl) (ops_nil (thn_n (ret (thn_r ?_))))
    refine fin hH134 (fun w' hf => (res1 rfl (show RV _ _ _ (.tmp 4) _ from rfl))) (fun w' hf => ?_)
    rfl

end Go.Fip
