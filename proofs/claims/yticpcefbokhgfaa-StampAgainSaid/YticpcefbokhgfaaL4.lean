/- Walks, by program (wip/tools). -/
import Derived.Test.YticpcefbokhgfaaMJ
import Derived.Test.YticpcefbokhgfaaMI
set_option linter.unusedVariables false
set_option linter.unusedSimpArgs false
set_option linter.unusedSectionVars false
set_option linter.unnecessarySimpa false
namespace Go.Fip
open Go.Proofs Go.RowKit

theorem c10 {v : Value} {l : List Int} {o1 o2 : Int} {w : World} (h0 : Rd encI 1 v l w) (hb1 : 0 ≤ o1 ∧ o1 ≤ 4294967295) (hb2 : 0 ≤ o2 ∧ o2 ≤ 4294967295)  :
    Fn Try.prog 10 [v, (.int .u32 o1), (.int .u32 o2)].toArray w (fun u _ => u = .bool true) := by
  refine fn_of' (args := [v, (.int .u32 o1), (.int .u32 o2)]) Try.func10 rfl (ent Try.func10 (by kernel_rfl) rfl) rfl rfl (fun hH => ?_)
  refine seq (region (ops_y hH rfl rfl (yv_assign rfl) (ops_nil (thn_n (seq (seq ?_))))))
  by_cases hc1 : S.J l
  · skip
    have hj : S.J l := ‹_›
    have hc0 : S.check l 0 = 0 := S.check_iff.2 hj
    have hl1 := hj.1
    have hl10 := hj.2.1
    have hag := S.ag2 hc0
    have ha30 := hj.again30
    have hrl := S.right_length l.length
    have hrl2 : (S.right ((l.length : Int)).toNat).length = l.length := S.right_length _
    have hp1 := hj.pow (t := o1) (by omega) (by omega)
    have hp2 := hj.pow (t := o2) (by omega) (by omega)
    have hp3 := hj.pow (t := o1 + o2) (by omega) (by omega)
    have hpn : S.power l (S.again l) = (S.right l.length, 0) := by rw [hj.pow (t := S.again l) (by omega) (by omega), (S.pw_right_iff hj (by omega)).2 (Int.emod_self)]
    have hja := hj.ofPw o1.toNat
    have hjb := hj.ofPw o2.toNat
    have hla : (S.pw l (o1).toNat).length = l.length := S.pw_length
    have hlb : (S.pw l (o2).toNat).length = l.length := S.pw_length
    have hlc : (S.pw l (o1 + o2).toNat).length = l.length := S.pw_length
    have hjo : S.join (S.pw l (o1).toNat) (S.pw l (o2).toNat) = (S.pw l (o1 + o2).toNat, 0) := by rw [S.jn2 (hja.two hjb (by omega)), S.behind_pw hj, ← Int.toNat_add (by omega) (by omega)]
    have hri := S.pw_right_iff hj (t := o1) (by omega)
    refine region (ops_y hH rfl rfl (yv_move rfl) ?_)
    refine op_fnV rfl rfl rfl hH (c56 (h0.now hH (n := 0) rfl)) (fun w2 hH3 => ?_)
    refine ops_y hH3 rfl rfl (yv_castB (bnot_f (decide_eq_true hc1)) (yv_not rfl)) ?_
    refine ops_nil (thn_n ?_)
    refine cond_f rfl rfl ?_
    refine skip (thn_n (seq (region (ops_y hH3 rfl rfl (yv_move rfl) ?_))))
    refine op_fnV rfl rfl rfl hH3 ((by have h := c34 (h0.now hH3 (n := 0) rfl) (by omega); simp only [hag] at h; exact h)) (fun w4 hH5 => ?_)
    refine ops_y hH5 rfl rfl (yv_move rfl) (ops_y hH5 rfl rfl (yv_extract rfl rfl) (ops_y hH5 rfl rfl (yv_extract rfl rfl) (ops_y hH5 rfl rfl (yv_assign rfl) (ops_y hH5 rfl rfl (yv_assign rfl) (ops_nil (thn_n (seq (seq (region ?_)))))))))
    refine ops_y hH5 rfl rfl (yv_move rfl) ?_
    refine ops_y hH5 rfl rfl (yv_castB rfl (yv_neq rfl rfl)) ?_
    refine ops_y hH5 rfl rfl (yv_move rfl) (guard_yes rfl rfl rfl (ops_y hH5 rfl rfl (yv_move rfl) (guard_yes rfl rfl rfl ?_)))
    refine ops_y hH5 rfl rfl (yv_lss rfl rfl) ?_
    refine ops_y hH5 rfl rfl (yv_pick_f rfl rfl rfl) ?_
    refine ops_y hH5 rfl rfl (yv_move rfl) ?_
    have hc6 : ¬ ((S.again l) < 1) := by omega
    refine guard_yes rfl rfl (decide_eq_false hc6) ?_
    refine ops_y hH5 rfl rfl (yv_move rfl) ?_
    refine guard_yes rfl rfl (decide_eq_false hc6) ?_
    refine ops_y hH5 rfl rfl (yv_gtr rfl rfl) ?_
    refine ops_y hH5 rfl rfl (yv_pick_f rfl (decide_eq_false hc6) rfl) ?_
    refine ops_nil (thn_n ?_)
    have hc7 : ¬ (30 < (S.again l)) := by omega
    refine cond_f rfl (decide_eq_false hc7) ?_
    refine skip (thn_n (seq (region (ops_y hH5 rfl rfl (yv_move rfl) (ops_y hH5 rfl rfl (yv_move rfl) ?_)))))
    refine ops_y hH5 rfl rfl (yv_conv Try.underlying58 Try.underlying2 rfl (wrap_i64 (by omega))) ?_
    refine op_fn rfl rfl rfl hH5 ((by have h := c36 (h0.now hH5 (n := 0) rfl) (by omega) (t := o1); simp only [hp1] at h; exact h)) (fun u10 w8 lo11 hi12 hH9 hv13 => ?_)
    obtain ⟨p15, hu, -⟩ := hv13
    subst hu
    have hH14 := Heap.tup2 hH9 (n := 0) rfl
    refine ops_y hH14 rfl rfl (yv_move rfl) (ops_y hH14 rfl rfl (yv_extract rfl rfl) (ops_y hH14 rfl rfl (yv_extract rfl rfl) (ops_y hH14 rfl rfl (yv_assign rfl) (ops_y hH14 rfl rfl (yv_assign rfl) (ops_nil (thn_n (seq (region (ops_y hH14 rfl rfl (yv_move rfl) ?_)))))))))
    refine ops_y hH14 rfl rfl (yv_move rfl) ?_
    refine ops_y hH14 rfl rfl (yv_conv Try.underlying58 Try.underlying2 rfl (wrap_i64 (by omega))) ?_
    refine op_fn rfl rfl rfl hH14 ((by have h := c36 (h0.now hH14 (n := 1) rfl) (by omega) (t := o2); simp only [hp2] at h; exact h)) (fun u18 w16 lo19 hi20 hH17 hv21 => ?_)
    obtain ⟨p23, hu, -⟩ := hv21
    subst hu
    have hH22 := Heap.tup2 hH17 (n := 0) rfl
    refine ops_y hH22 rfl rfl (yv_move rfl) (ops_y hH22 rfl rfl (yv_extract rfl rfl) (ops_y hH22 rfl rfl (yv_extract rfl rfl) (ops_y hH22 rfl rfl (yv_assign rfl) (ops_y hH22 rfl rfl (yv_assign rfl) (ops_nil (thn_n (seq (region (ops_y hH22 rfl rfl (yv_move rfl) ?_)))))))))
    refine ops_y hH22 rfl rfl (yv_move rfl) ?_
    refine ops_y hH22 rfl rfl (yv_conv Try.underlying58 Try.underlying2 rfl (wrap_i64 (by omega))) ?_
    refine ops_y hH22 rfl rfl (yv_move rfl) ?_
    refine ops_y hH22 rfl rfl (yv_conv Try.underlying58 Try.underlying2 rfl (wrap_i64 (by omega))) ?_
    refine ops_y hH22 rfl rfl (yv_add rfl rfl (by omega)) ?_
    refine op_fn rfl rfl rfl hH22 ((by have h := c36 (h0.now hH22 (n := 2) rfl) (by omega) (t := o1 + o2); simp only [hp3] at h; exact h)) (fun u26 w24 lo27 hi28 hH25 hv29 => ?_)
    obtain ⟨p31, hu, -⟩ := hv29
    subst hu
    have hH30 := Heap.tup2 hH25 (n := 0) rfl
    refine ops_y hH30 rfl rfl (yv_move rfl) (ops_y hH30 rfl rfl (yv_extract rfl rfl) (ops_y hH30 rfl rfl (yv_extract rfl rfl) (ops_y hH30 rfl rfl (yv_assign rfl) (ops_y hH30 rfl rfl (yv_assign rfl) (ops_nil (thn_n (seq (region (ops_y hH30 rfl rfl (yv_move rfl) ?_)))))))))
    refine ops_y hH30 rfl rfl (yv_move rfl) ?_
    refine op_fn rfl rfl rfl hH30 ((by have h := c36 (h0.now hH30 (n := 3) rfl) (by omega) (t := (S.again l)); simp only [hpn] at h; exact h)) (fun u34 w32 lo35 hi36 hH33 hv37 => ?_)
    obtain ⟨p39, hu, -⟩ := hv37
    subst hu
    have hH38 := Heap.tup2 hH33 (n := 0) rfl
    refine ops_y hH38 rfl rfl (yv_move rfl) (ops_y hH38 rfl rfl (yv_extract rfl rfl) (ops_y hH38 rfl rfl (yv_extract rfl rfl) (ops_y hH38 rfl rfl (yv_assign rfl) (ops_y hH38 rfl rfl (yv_assign rfl) (ops_nil (thn_n (seq (seq (region ?_)))))))))
    refine ops_y hH38 rfl rfl (yv_move rfl) ?_
    refine ops_y hH38 rfl rfl (yv_castB rfl (yv_neq rfl rfl)) ?_
    refine ops_y hH38 rfl rfl (yv_move rfl) (guard_yes rfl rfl rfl (ops_y hH38 rfl rfl (yv_move rfl) (guard_yes rfl rfl rfl ?_)))
    refine ops_y hH38 rfl rfl (yv_castB rfl (yv_neq rfl rfl)) ?_
    refine ops_y hH38 rfl rfl (yv_pick_f rfl rfl rfl) ?_
    refine ops_y hH38 rfl rfl (yv_move rfl) (guard_yes rfl rfl rfl (ops_y hH38 rfl rfl (yv_move rfl) (guard_yes rfl rfl rfl ?_)))
    refine ops_y hH38 rfl rfl (yv_castB rfl (yv_neq rfl rfl)) ?_
    refine ops_y hH38 rfl rfl (yv_pick_f rfl rfl rfl) ?_
    refine ops_y hH38 rfl rfl (yv_move rfl) (guard_yes rfl rfl rfl (ops_y hH38 rfl rfl (yv_move rfl) (guard_yes rfl rfl rfl ?_)))
    refine ops_y hH38 rfl rfl (yv_castB rfl (yv_neq rfl rfl)) ?_
    refine ops_y hH38 rfl rfl (yv_pick_f rfl rfl rfl) ?_
    refine ops_y hH38 rfl rfl (yv_move rfl) (guard_yes rfl rfl rfl (ops_y hH38 rfl rfl (yv_move rfl) (guard_yes rfl rfl rfl ?_)))
    refine op_fnV rfl rfl rfl hH38 (c56 (Heap.rdw T.el22_encI hH38 (n := 3) rfl)) (fun w40 hH41 => ?_)
    refine guard_yes rfl rfl rfl ?_
    refine ops_y hH41 rfl rfl (yv_not rfl) ?_
    refine ops_y hH41 rfl rfl (yv_pick_f rfl rfl rfl) ?_
    refine ops_y hH41 rfl rfl (yv_move rfl) ?_
    have hc42 : ¬ (¬ (S.J (S.pw l (o1).toNat))) := fun h => h hja
    refine guard_yes rfl rfl (not_decide_f hc42) ?_
    refine ops_y hH41 rfl rfl (yv_move rfl) ?_
    refine guard_yes rfl rfl (not_decide_f hc42) ?_
    refine op_fnV rfl rfl rfl hH41 (c56 (Heap.rdw T.el22_encI hH41 (n := 2) rfl)) (fun w43 hH44 => ?_)
    refine guard_yes rfl rfl (not_decide_f hc42) ?_
    refine ops_y hH44 rfl rfl (yv_not rfl) ?_
    refine ops_y hH44 rfl rfl (yv_pick_f rfl (not_decide_f hc42) rfl) ?_
    refine ops_y hH44 rfl rfl (yv_move rfl) ?_
    have hc45 : ¬ (¬ (S.J (S.pw l (o2).toNat))) := fun h => h hjb
    refine guard_yes rfl rfl (not_decide_f hc45) ?_
    refine ops_y hH44 rfl rfl (yv_move rfl) ?_
    refine guard_yes rfl rfl (not_decide_f hc45) ?_
    refine ops_y hH44 rfl rfl (yv_len T.sl22 rfl (Heap.rdw T.el22_encI hH44 (n := 3) rfl).is) ?_
    refine guard_yes rfl rfl (not_decide_f hc45) ?_
    refine ops_y hH44 rfl rfl (yv_move rfl) ?_
    refine guard_yes rfl rfl (not_decide_f hc45) ?_
    refine ops_y hH44 rfl rfl (yv_len T.sl22 rfl (h0.now hH44 (n := 4) rfl).is) ?_
    refine guard_yes rfl rfl (not_decide_f hc45) ?_
    refine ops_y hH44 rfl rfl (yv_neq rfl rfl) ?_
    refine ops_y hH44 rfl rfl (yv_pick_f rfl (not_decide_f hc45) rfl) ?_
    refine ops_y hH44 rfl rfl (yv_move rfl) ?_
    have hc46 : ¬ (¬ (((S.pw l (o1).toNat).length : Int) = (l.length : Int))) := by omega
    refine guard_yes rfl rfl (not_decide_f hc46) ?_
    refine ops_y hH44 rfl rfl (yv_move rfl) ?_
    refine guard_yes rfl rfl (not_decide_f hc46) ?_
    refine ops_y hH44 rfl rfl (yv_len T.sl22 rfl (Heap.rdw T.el22_encI hH44 (n := 2) rfl).is) ?_
    refine guard_yes rfl rfl (not_decide_f hc46) ?_
    refine ops_y hH44 rfl rfl (yv_move rfl) ?_
    refine guard_yes rfl rfl (not_decide_f hc46) ?_
    refine ops_y hH44 rfl rfl (yv_len T.sl22 rfl (h0.now hH44 (n := 4) rfl).is) ?_
    refine guard_yes rfl rfl (not_decide_f hc46) ?_
    refine ops_y hH44 rfl rfl (yv_neq rfl rfl) ?_
    refine ops_y hH44 rfl rfl (yv_pick_f rfl (not_decide_f hc46) rfl) ?_
    refine ops_nil (thn_n ?_)
    have hc47 : ¬ (¬ (((S.pw l (o2).toNat).length : Int) = (l.length : Int))) := by omega
    refine cond_f rfl (not_decide_f hc47) ?_
    refine skip (thn_n (seq (region (ops_y hH44 rfl rfl (yv_move rfl) (ops_y hH44 rfl rfl (yv_move rfl) ?_)))))
    refine op_fn rfl rfl rfl hH44 ((by have h := c38 (Heap.rdw T.el22_encI hH44 (n := 3) rfl) (Heap.rdw T.el22_encI hH44 (n := 2) rfl) (by omega) (by omega); simp only [hjo] at h; exact h)) (fun u50 w48 lo51 hi52 hH49 hv53 => ?_)
    obtain ⟨p55, hu, -⟩ := hv53
    subst hu
    have hH54 := Heap.tup2 hH49 (n := 0) rfl
    refine ops_y hH54 rfl rfl (yv_move rfl) (ops_y hH54 rfl rfl (yv_extract rfl rfl) (ops_y hH54 rfl rfl (yv_extract rfl rfl) (ops_y hH54 rfl rfl (yv_assign rfl) (ops_y hH54 rfl rfl (yv_assign rfl) (ops_nil (thn_n (seq (region (ops_y hH54 rfl rfl (yv_move rfl) ?_)))))))))
    refine ops_y hH54 rfl rfl (yv_len T.sl22 rfl (h0.now hH54 (n := 5) rfl).is) ?_
    refine op_fn rfl rfl rfl hH54 (c58 (by omega) (by omega)) (fun u58 w56 lo59 hi60 hH57 hv61 => ?_)
    have hH62 := Heap.toOw hH57 (n := 0) rfl
    refine ops_y hH62 rfl rfl (yv_assign rfl) (ops_nil (thn_n (seq ?_)))
    refine region_draw (fun w' => Heap [ow lo59 hi60 3 1 encI u58 (S.right l.length), ow lo51 hi52 3 1 encI p55 (S.pw l (o1 + o2).toNat), ow lo35 hi36 3 1 encI p39 (S.right l.length), ow lo27 hi28 3 1 encI p31 (S.pw l (o1 + o2).toNat), ow lo19 hi20 3 1 encI p23 (S.pw l (o2).toNat), ow lo11 hi12 3 1 encI p15 (S.pw l (o1).toNat), base w] w') T.mixed (fun w63 hr64 => ?_)
    have hH65 := hH62.redrawn hr64
    refine any_takes [0, 1, 2, 3, 4] (by kernel_rfl) hH65 _ _ _ (by kernel_rfl) ?_
    refine qs_y rfl rfl (yv_move rfl) ?_
    refine qs_y rfl rfl (yv_castB rfl (yv_eql rfl rfl)) ?_
    refine qs_y rfl rfl (yv_move rfl) ?_
    refine qs_yes rfl rfl rfl rfl rfl (yv_move rfl) ?_
    refine qs_yes rfl rfl rfl rfl rfl (yv_move rfl) ?_
    refine qs_nil ?_
    refine any_all [5] (by kernel_rfl) rfl ?_
    refine ⟨⟨_, rfl, ?_⟩, trivial⟩
    · skip
      refine guard_yes rfl rfl rfl ?_
      refine op_fnV rfl rfl rfl hH65 (c33 (Heap.rdw T.el22_encI hH65 (n := 1) rfl) (Heap.rdw T.el22_encI hH65 (n := 3) rfl) (by omega) (by omega)) (fun w66 hH67 => ?_)
      refine ops_nil ?_
      refine ⟨hH67, ?_⟩
      refine any_takes [6, 7, 8, 9] (by kernel_rfl) hH67 _ _ _ (by kernel_rfl) ?_
      refine qs_y rfl rfl (yv_pick_t rfl rfl rfl) ?_
      refine qs_y rfl rfl (yv_move rfl) ?_
      refine qs_yes rfl rfl rfl (decide_eq_true rfl) rfl (yv_move rfl) ?_
      refine qs_yes rfl rfl rfl (decide_eq_true rfl) rfl (yv_move rfl) ?_
      refine qs_nil ?_
      refine any_all [10] (by kernel_rfl) rfl ?_
      refine ⟨⟨_, rfl, ?_⟩, trivial⟩
      · skip
        refine guard_yes rfl rfl (decide_eq_true rfl) ?_
        refine op_fnV rfl rfl rfl hH67 (c33 (Heap.rdw T.el22_encI hH67 (n := 2) rfl) (Heap.rdw T.el22_encI hH67 (n := 0) rfl) (by omega) (by omega)) (fun w68 hH69 => ?_)
        refine ops_nil ?_
        refine ⟨hH69, ?_⟩
        refine any_takes [11, 12, 13, 14, 16, 17, 18, 19, 20] (by kernel_rfl) hH69 _ _ _ (by kernel_rfl) ?_
        refine qs_y rfl rfl (yv_pick_t rfl (decide_eq_true rfl) rfl) ?_
        refine qs_y rfl rfl (yv_move rfl) ?_
        refine qs_yes rfl rfl rfl (decide_eq_true rfl) rfl (yv_move rfl) ?_
        refine qs_yes rfl rfl rfl (decide_eq_true rfl) rfl (yv_move rfl) ?_
        refine qs_yes rfl rfl rfl (decide_eq_true rfl) rfl (yv_move rfl) ?_
        refine qs_yes rfl rfl rfl (decide_eq_true rfl) rfl (yv_conv Try.underlying58 Try.underlying2 rfl (wrap_i64 (by omega))) ?_
        refine qs_yes rfl rfl rfl (decide_eq_true rfl) rfl (yv_move rfl) ?_
        refine qs_yes rfl rfl rfl (decide_eq_true rfl) rfl (yv_rem rfl rfl (by omega) (by omega)) ?_
        refine qs_yes rfl rfl rfl (decide_eq_true rfl) rfl (yv_eql rfl rfl) ?_
        refine qs_nil ?_
        refine any_all [15] (by kernel_rfl) rfl ?_
        refine ⟨⟨_, rfl, ?_⟩, trivial⟩
        · skip
          refine guard_yes rfl rfl (decide_eq_true rfl) ?_
          refine op_fnV rfl rfl rfl hH69 (c33 (Heap.rdw T.el22_encI hH69 (n := 5) rfl) (Heap.rdw T.el22_encI hH69 (n := 0) rfl) (by omega) (by omega)) (fun w70 hH71 => ?_)
          refine ops_nil ?_
          refine ⟨hH71, ?_⟩
          refine any_takes [21, 22, 23] (by kernel_rfl) hH71 _ _ _ (by kernel_rfl) ?_
          refine qs_yes rfl rfl rfl (decide_eq_true rfl) rfl (yv_eqlB Try.underlying4 rfl rfl (decide_eq_decide.2 hri)) ?_
          refine qs_y rfl rfl (yv_pick_t rfl (decide_eq_true rfl) rfl) ?_
          refine qs_y rfl rfl (yv_move rfl) (qs_nil ?_)
          refine any_all [24] (by kernel_rfl) rfl ?_
          refine ⟨⟨_, rfl, ?_⟩, trivial⟩
          · skip
            refine guard_yes rfl rfl rfl ?_
            refine op_fnV rfl rfl rfl hH71 (c18) (fun w72 hH73 => ?_)
            refine ops_nil ?_
            refine ⟨hH73, ?_⟩
            refine any_takes [25, 26] (by kernel_rfl) hH73 _ _ _ (by kernel_rfl) ?_
            refine qs_y rfl rfl (yv_pick_t rfl rfl rfl) ?_
            refine qs_y rfl rfl (yv_assign rfl) (qs_nil ?_)
            refine any_done (by kernel_rfl) ?_
            refine thn_n (ret ?_)
            have hH74 := (hH73.sub (List.Sublist.cons _ (List.Sublist.cons _ (List.Sublist.cons _ (List.Sublist.cons _ (List.Sublist.cons _ (List.Sublist.cons _ (List.Sublist.refl _))))))))
            refine fin hH74 (fun w' hf => (res1 rfl (show RV _ _ _ (.tmp 6) _ from rfl))) (fun w' hf => ?_)
            rfl
  · skip
    have hnj : ¬ S.J l := ‹_›
    refine region (ops_y hH rfl rfl (yv_move rfl) ?_)
    refine op_fnV rfl rfl rfl hH (c56 (h0.now hH (n := 0) rfl)) (fun w75 hH76 => ?_)
    refine ops_y hH76 rfl rfl (yv_castB (bnot_t (decide_eq_false hc1)) (yv_not rfl)) ?_
    refine ops_nil (thn_n ?_)
    refine cond_t rfl rfl ?_
    refine seq (region ?_)
    refine op_fnV rfl rfl rfl hH76 (c18) (fun w77 hH78 => ?_)
    refine ops_y hH78 rfl rfl (yv_assign rfl) (ops_nil (thn_n (ret (thn_r ?_))))
    refine fin hH78 (fun w' hf => (res1 rfl (show RV _ _ _ (.tmp 6) _ from rfl))) (fun w' hf => ?_)
    rfl

end Go.Fip
