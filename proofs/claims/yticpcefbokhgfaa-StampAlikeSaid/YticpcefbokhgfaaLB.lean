/- Walks, by program (wip/tools). -/
import Derived.Test.YticpcefbokhgfaaMJ
import Derived.Test.YticpcefbokhgfaaMK
set_option linter.unusedVariables false
set_option linter.unusedSimpArgs false
set_option linter.unusedSectionVars false
set_option linter.unnecessarySimpa false
namespace Go.Fip
open Go.Proofs Go.RowKit

theorem c13 {v vb vc : Value} {l bs cs : List Int} {w : World} (h0 : Rd encI 1 v l w) (hb : Rd encB 1 vb bs w) (hby : ∀ x ∈ bs, 0 ≤ x ∧ x ≤ 255) (hcb : Rd encB 1 vc cs w) (hcy : ∀ x ∈ cs, 0 ≤ x ∧ x ≤ 255)  :
    Fn Try.prog 13 [v, vb, vc].toArray w (fun u _ => u = .bool true) := by
  refine fn_of' (args := [v, vb, vc]) Try.func13 rfl (ent Try.func13 (by kernel_rfl) rfl) rfl rfl (fun hH => ?_)
  refine seq (region (ops_y hH rfl rfl (yv_assign rfl) (ops_nil (thn_n (seq (seq ?_))))))
  by_cases hc1 : S.J l
  · skip
    have hj : S.J l := ‹_›
    have hc0 : S.check l 0 = 0 := S.check_iff.2 hj
    have hl1 := hj.1
    have hl10 := hj.2.1
    have hr := S.giv_J (n := l.length) (bs := bs) hl1 hl10 hby
    have hk := S.giv_J (n := l.length) (bs := cs) hl1 hl10 hcy
    have hrl := S.giv_len (n := l.length) (bs := bs)
    have hkl := S.giv_len (n := l.length) (bs := cs)
    have hag := S.ag2 hc0
    have hex := S.ex2 hc0
    obtain ⟨hea, heb, hec⟩ := S.exs_all hj
    refine region (ops_y hH rfl rfl (yv_move rfl) ?_)
    refine op_fnV rfl rfl rfl hH (c56 (h0.now hH (n := 0) rfl)) (fun w2 hH3 => ?_)
    refine ops_y hH3 rfl rfl (yv_castB (bnot_f (decide_eq_true hc1)) (yv_not rfl)) ?_
    refine ops_y hH3 rfl rfl (yv_move rfl) (guard_yes rfl rfl rfl (ops_y hH3 rfl rfl (yv_move rfl) (guard_yes rfl rfl rfl ?_)))
    refine ops_y hH3 rfl rfl (yv_len T.sl53 rfl ((hb.now hH3 (n := 0) rfl)).is) ?_
    refine guard_yes rfl rfl rfl ?_
    refine ops_y hH3 rfl rfl (yv_gtr rfl rfl) ?_
    refine ops_y hH3 rfl rfl (yv_pick_f rfl rfl rfl) ?_
    refine ops_y hH3 rfl rfl (yv_move rfl) ?_
    by_cases hc4 : 20 < (bs.length : Int)
    · skip
      refine guard_no rfl rfl (decide_eq_true hc4) rfl ?_
      refine guard_no rfl rfl (decide_eq_true hc4) rfl ?_
      refine guard_no rfl rfl (decide_eq_true hc4) rfl ?_
      refine ops_y hH3 rfl rfl (yv_pick_t rfl (decide_eq_true hc4) rfl) ?_
      refine ops_nil (thn_n ?_)
      refine cond_t rfl rfl ?_
      refine seq (region ?_)
      refine op_fnV rfl rfl rfl hH3 (c18) (fun w5 hH6 => ?_)
      refine ops_y hH6 rfl rfl (yv_assign rfl) (ops_nil (thn_n (ret (thn_r ?_))))
      refine fin hH6 (fun w' hf => (res1 rfl (show RV _ _ _ (.tmp 6) _ from rfl))) (fun w' hf => ?_)
      rfl
    · skip
      refine guard_yes rfl rfl (decide_eq_false hc4) ?_
      refine ops_y hH3 rfl rfl (yv_move rfl) ?_
      refine guard_yes rfl rfl (decide_eq_false hc4) ?_
      refine ops_y hH3 rfl rfl (yv_len T.sl53 rfl ((hcb.now hH3 (n := 0) rfl)).is) ?_
      refine guard_yes rfl rfl (decide_eq_false hc4) ?_
      refine ops_y hH3 rfl rfl (yv_gtr rfl rfl) ?_
      refine ops_y hH3 rfl rfl (yv_pick_f rfl (decide_eq_false hc4) rfl) ?_
      refine ops_nil (thn_n ?_)
      by_cases hc7 : 20 < (cs.length : Int)
      · skip
        refine cond_t rfl (decide_eq_true hc7) ?_
        refine seq (region ?_)
        refine op_fnV rfl rfl rfl hH3 (c18) (fun w8 hH9 => ?_)
        refine ops_y hH9 rfl rfl (yv_assign rfl) (ops_nil (thn_n (ret (thn_r ?_))))
        refine fin hH9 (fun w' hf => (res1 rfl (show RV _ _ _ (.tmp 6) _ from rfl))) (fun w' hf => ?_)
        rfl
      · skip
        refine cond_f rfl (decide_eq_false hc7) ?_
        refine skip (thn_n (seq (region (ops_y hH3 rfl rfl (yv_move rfl) ?_))))
        refine ops_y hH3 rfl rfl (yv_len T.sl22 rfl (h0.now hH3 (n := 0) rfl).is) ?_
        refine ops_y hH3 rfl rfl (yv_move rfl) ?_
        refine op_fn rfl rfl rfl hH3 ((by have h := c61 (n := (l.length : Int)) ((hb.now hH3 (n := 0) rfl)) hby (by omega) (by omega) (by omega); simp only [Int.toNat_natCast] at h; exact h)) (fun u12 w10 lo13 hi14 hH11 hv15 => ?_)
        have hH16 := Heap.toOw hH11 (n := 0) rfl
        refine ops_y hH16 rfl rfl (yv_move rfl) ?_
        refine ops_y hH16 rfl rfl (yv_len T.sl22 rfl (h0.now hH16 (n := 1) rfl).is) ?_
        refine ops_y hH16 rfl rfl (yv_move rfl) ?_
        refine op_fn rfl rfl rfl hH16 ((by have h := c61 (n := (l.length : Int)) ((hcb.now hH16 (n := 1) rfl)) hcy (by omega) (by omega) (by omega); simp only [Int.toNat_natCast] at h; exact h)) (fun u19 w17 lo20 hi21 hH18 hv22 => ?_)
        have hH23 := Heap.toOw hH18 (n := 0) rfl
        refine ops_y hH23 rfl rfl (yv_assign rfl) (ops_y hH23 rfl rfl (yv_assign rfl) (ops_nil (thn_n (seq (region (ops_y hH23 rfl rfl (yv_move rfl) ?_))))))
        refine ops_y hH23 rfl rfl (yv_len T.sl22 rfl (h0.now hH23 (n := 2) rfl).is) ?_
        refine op_make T.el22_encI (0 : Int) T.z22_encI rfl rfl rfl hH23 (by omega) (by omega) (fun u24 lo26 hi27 w25 hH28 => ?_)
        refine ops_y hH28 rfl rfl (yv_assign rfl) (ops_nil (thn_n (seq (seq (region (ops_y hH28 rfl rfl (yv_assign rfl) (ops_nil (thn_n (block ?_)))))))))
        refine loop (S := Nat × List Int × Value × Nat × Nat) (fun (k, o, v_9, lo_9, hi_9) => [(10, (.int .i64 (k : Int))), (9, v_9), (0, v), (6, (.bool false)), (7, u12), (8, u19)]) (fun (k, o, v_9, lo_9, hi_9) w1 => Heap [ow lo_9 hi_9 3 1 encI v_9 o, ow lo20 hi21 3 1 encI u19 (S.giv l.length cs), ow lo13 hi14 3 1 encI u12 (S.giv l.length bs), base w] w1 ∧ k ≤ l.length ∧ S.CjP l (S.giv l.length bs) k o) (fun (k, o, v_9, lo_9, hi_9) => l.length - k) (0, (List.replicate ((l.length : Int)).toNat 0), u24, lo26, hi27) (Sub.cons rfl (Sub.cons rfl (Sub.cons rfl (Sub.cons rfl (Sub.cons rfl (Sub.cons rfl (Sub.nil _))))))) ?_ ?_
        · exact ⟨hH28, by omega, S.CjP.start (by simp)⟩
        · rintro ⟨k, o, v_9, lo_9, hi_9⟩ w29 ⟨hH30, hkl2, hP⟩
          show Holds _ _ _ _ _ [(10, (.int .i64 (k : Int))), (9, v_9), (0, v), (6, (.bool false)), (7, u12), (8, u19)] _ _
          have hol := hP.1
          refine seq (seq (region (ops_y hH30 rfl rfl (yv_move rfl) (ops_y hH30 rfl rfl (yv_move rfl) ?_))))
          refine ops_y hH30 rfl rfl (yv_len T.sl22 rfl (h0.now hH30 (n := 3) rfl).is) ?_
          refine ops_y hH30 rfl rfl (yv_lss rfl rfl) ?_
          refine ops_nil (thn_n ?_)
          by_cases hc31 : (k : Int) < (l.length : Int)
          · skip
            refine cond_t rfl (decide_eq_true hc31) ?_
            refine skip (thn_n (seq (block ?_)))
            have hp1 := hr.nth (x := (k : Int)) (by omega) (by omega)
            have hp2 := hj.nth (x := (k : Int)) (by omega) (by omega)
            have hp3 := hr.nth (x := nth l (k : Int)) hp2.1 (by omega)
            refine region_drawY (fun w' => Heap [ow lo_9 hi_9 3 1 encI v_9 o, ow lo20 hi21 3 1 encI u19 (S.giv l.length cs), ow lo13 hi14 3 1 encI u12 (S.giv l.length bs), base w] w') [13] T.mixed (fun w32 hr33 => ?_)
            have hH34 := hH30.redrawn hr33
            refine any_takesT [0, 1, 2, 3, 5, 6, 7, 8] (by kernel_rfl)  _ _ _ (by kernel_rfl) ?_
            refine qs_y rfl rfl (yv_move rfl) (qs_y rfl rfl (yv_move rfl) (qs_y rfl rfl (yv_move rfl) ?_))
            refine qs_y rfl rfl (yv_index T.sl22 rfl rfl (Heap.rdw T.el22_encI hH34 (n := 2) rfl).is (by omega)) ?_
            refine qs_y rfl rfl (yv_move rfl) (qs_y rfl rfl (yv_move rfl) (qs_y rfl rfl (yv_move rfl) ?_))
            refine qs_y rfl rfl (yv_index T.sl22 rfl rfl (h0.now hH34 (n := 3) rfl).is (by omega)) ?_
            refine qs_nil ?_
            refine any_takesY [4, 9] (by kernel_rfl) hH34 _ _ _ (by kernel_rfl) ?_
            refine qs_y rfl rfl (yv_load T.one3 rfl (fun _ hw => Rd.at (Heap.rdw T.el22_encI hw (n := 2) rfl) (i := (k : Int)) (by omega) (j := 0) rfl)) ?_
            refine qs_y rfl rfl (yv_load T.one3 rfl (fun _ hw => Rd.at (h0.now hw (n := 3) rfl) (i := (k : Int)) (by omega) (j := 0) rfl)) ?_
            refine qs_nil ?_
            refine any_takesT [10] (by kernel_rfl)  _ _ _ (by kernel_rfl) ?_
            refine qs_y rfl rfl (yv_index T.sl22 rfl rfl (Heap.rdw T.el22_encI hH34 (n := 2) rfl).is (by omega)) ?_
            refine qs_nil ?_
            refine any_takesY [11] (by kernel_rfl) hH34 _ _ _ (by kernel_rfl) ?_
            refine qs_y rfl rfl (yv_load T.one3 rfl (fun _ hw => Rd.at (Heap.rdw T.el22_encI hw (n := 2) rfl) (i := nth l (k : Int)) (by omega) (j := 0) rfl)) ?_
            refine qs_nil ?_
            refine any_takesT [12] (by kernel_rfl)  _ _ _ (by kernel_rfl) ?_
            refine qs_y rfl rfl (yv_index T.sl22 rfl rfl (Heap.rdw T.el22_encI hH34 (n := 0) rfl).is (by omega)) ?_
            refine qs_nil ?_
            refine any_allY [13] (by kernel_rfl) rfl ?_
            refine ⟨⟨_, rfl, ?_⟩, trivial⟩
            · skip
              refine op_setE (n := 0) (i := nth (S.giv l.length bs) (k : Int)) (k := 0) (us := [(.int .i64 (nth (S.giv l.length bs) (nth l (k : Int))))]) (z := nth (S.giv l.length bs) (nth l (k : Int))) T.el22_encI rfl rfl hH34 rfl (by omega) T.sz3 rfl rfl rfl (Nat.le_of_ble_eq_true rfl) (fun w35 hH36 => ?_)
              refine ops_nil ?_
              refine ⟨(fun h => by cases h), ?_⟩
              refine any_doneY (by kernel_rfl) ?_
              refine blk_n (thn_n (region (ops_y hH36 rfl rfl (yv_move rfl) ?_)))
              refine ops_y hH36 rfl rfl (yv_add rfl rfl (by omega)) ?_
              refine ops_y hH36 rfl rfl (yv_assign rfl) (ops_nil ?_)
              refine lp_n ((k + 1), (o.set (nth (S.giv l.length bs) (k : Int)).toNat (nth (S.giv l.length bs) (nth l (k : Int)))), v_9, lo_9, hi_9) (Sub.cons rfl (Sub.cons rfl (Sub.cons rfl (Sub.cons rfl (Sub.cons rfl (Sub.cons rfl (Sub.nil _))))))) ?_ ?_
              · exact ⟨(Heap.recast (n := 0) hH36 rfl (rfl)), by omega, hP.step hr hrl (by omega)⟩
              · first | (dsimp only; omega) | (show _ < _; omega)
          · skip
            refine cond_f rfl (decide_eq_false hc31) ?_
            refine exit (thn_x (lp_x (blk_here (thn_n (seq ?_)))))
            have hke : k = l.length := by omega
            have hoe : o = S.cjl l (S.giv l.length bs) := (hke ▸ hP).done hj hr hrl
            have hoJ : S.J o := by rw [hoe]; exact S.cjl_J hj hr hrl
            have hoc : S.Conj l o (S.giv l.length bs) := by rw [hoe]; exact S.cjl_conj hj hr hrl
            have hco0 : S.check o 0 = 0 := S.check_iff.2 hoJ
            have hmany := hoc.many hj hoJ hr
            have hcq := S.cyc_eq hj hoJ hmany
            have hal := S.al3 (hj.two hoJ (by omega)) ((S.counts_iff hj hoJ).2 hmany)
            have hisa := S.alk_isal hj hoJ (by omega) hmany
            have hall := S.alk_length hj hoJ (by omega) hmany
            have hlex : ¬ S.lexB (S.giv l.length bs) (S.alk l o) = true := fun h => S.alk_first hj hoJ (by omega) hmany hr hoc (S.lexB_iff.1 h)
            have hago : S.againR o = (S.again l, 0) := (S.ag2 hco0).trans (by rw [hoc.again hj hoJ hr])
            have hexo := S.ex2 hco0
            obtain ⟨hoa, hob, hoc2⟩ := S.exs_all hoJ
            have hcyl := hj.cyc_le
            have hcyo := hoJ.cyc_le
            have hre : (S.rootR o).2 = (S.rootR l).2 := S.root_err hc0 hco0 (S.noneL_eq hmany)
            refine region (ops_y hH30 rfl rfl (yv_move rfl) (ops_y hH30 rfl rfl (yv_move rfl) ?_))
            refine op_fn rfl rfl rfl hH30 ((by have h := c40 (h0.now hH30 (n := 3) rfl) (Heap.rdw T.el22_encI hH30 (n := 0) rfl) (by omega) (by omega); simp only [hal] at h; exact h)) (fun u39 w37 lo40 hi41 hH38 hv42 => ?_)
            obtain ⟨p44, hu, -⟩ := hv42
            subst hu
            have hH43 := Heap.tup2 hH38 (n := 0) rfl
            refine ops_y hH43 rfl rfl (yv_move rfl) (ops_y hH43 rfl rfl (yv_extract rfl rfl) (ops_y hH43 rfl rfl (yv_extract rfl rfl) (ops_y hH43 rfl rfl (yv_assign rfl) (ops_y hH43 rfl rfl (yv_assign rfl) (ops_nil (thn_n (seq (seq (region ?_)))))))))
            refine ops_y hH43 rfl rfl (yv_move rfl) ?_
            refine ops_y hH43 rfl rfl (yv_castB rfl (yv_neq rfl rfl)) ?_
            refine ops_y hH43 rfl rfl (yv_move rfl) (guard_yes rfl rfl rfl (ops_y hH43 rfl rfl (yv_move rfl) (guard_yes rfl rfl rfl (ops_y hH43 rfl rfl (yv_move rfl) (guard_yes rfl rfl rfl (ops_y hH43 rfl rfl (yv_move rfl) (guard_yes rfl rfl rfl ?_)))))))
            refine op_fnV rfl rfl rfl hH43 (c62 (h0.now hH43 (n := 4) rfl) (Heap.rdw T.el22_encI hH43 (n := 1) rfl) (Heap.rdw T.el22_encI hH43 (n := 0) rfl) hj (by omega) (by omega)) (fun w45 hH46 => ?_)
            refine guard_yes rfl rfl rfl ?_
            refine ops_y hH46 rfl rfl (yv_not rfl) ?_
            refine ops_y hH46 rfl rfl (yv_pick_f rfl rfl rfl) ?_
            refine ops_y hH46 rfl rfl (yv_move rfl) ?_
            have hc47 : ¬ (¬ (S.IsAl l o (S.alk l o))) := fun h => h hisa
            refine guard_yes rfl rfl (not_decide_f hc47) ?_
            refine ops_y hH46 rfl rfl (yv_move rfl) ?_
            refine guard_yes rfl rfl (not_decide_f hc47) ?_
            refine ops_y hH46 rfl rfl (yv_move rfl) ?_
            refine guard_yes rfl rfl (not_decide_f hc47) ?_
            refine op_fnV rfl rfl rfl hH46 (c64 (Heap.rdw T.el22_encI hH46 (n := 3) rfl) (Heap.rdw T.el22_encI hH46 (n := 0) rfl) (by omega) (by omega)) (fun w48 hH49 => ?_)
            refine ops_y hH49 rfl rfl (yv_pick_f rfl (not_decide_f hc47) rfl) ?_
            refine ops_nil (thn_n ?_)
            have hc50 : ¬ ((S.lexB (S.giv l.length bs) (S.alk l o)) = true) := hlex
            refine cond_f rfl (Bool.eq_false_iff.2 hc50) ?_
            refine skip (thn_n (seq (region (ops_y hH49 rfl rfl (yv_move rfl) ?_))))
            refine op_fnV rfl rfl rfl hH49 ((by have h := c34 (h0.now hH49 (n := 4) rfl) (by omega); simp only [hag] at h; exact h)) (fun w51 hH52 => ?_)
            refine ops_y hH52 rfl rfl (yv_move rfl) (ops_y hH52 rfl rfl (yv_extract rfl rfl) (ops_y hH52 rfl rfl (yv_extract rfl rfl) (ops_y hH52 rfl rfl (yv_assign rfl) (ops_y hH52 rfl rfl (yv_assign rfl) (ops_nil (thn_n (seq (region (ops_y hH52 rfl rfl (yv_move rfl) ?_)))))))))
            refine op_fnV rfl rfl rfl hH52 ((by have h := c34 (Heap.rdw T.el22_encI hH52 (n := 1) rfl) (by omega); simp only [hago] at h; exact h)) (fun w53 hH54 => ?_)
            refine ops_y hH54 rfl rfl (yv_move rfl) (ops_y hH54 rfl rfl (yv_extract rfl rfl) (ops_y hH54 rfl rfl (yv_extract rfl rfl) (ops_y hH54 rfl rfl (yv_assign rfl) (ops_y hH54 rfl rfl (yv_assign rfl) (ops_nil (thn_n (seq (region (ops_y hH54 rfl rfl (yv_move rfl) ?_)))))))))
            refine op_fn rfl rfl rfl hH54 ((by have h := c29 (h0.now hH54 (n := 4) rfl) (by omega); simp only [hex] at h; exact h)) (fun u57 w55 lo58 hi59 hH56 hv60 => ?_)
            obtain ⟨p62, hu, -⟩ := hv60
            subst hu
            have hH61 := Heap.tup2 hH56 (n := 0) rfl
            refine ops_y hH61 rfl rfl (yv_move rfl) (ops_y hH61 rfl rfl (yv_extract rfl rfl) (ops_y hH61 rfl rfl (yv_extract rfl rfl) (ops_y hH61 rfl rfl (yv_assign rfl) (ops_y hH61 rfl rfl (yv_assign rfl) (ops_nil (thn_n (seq (region (ops_y hH61 rfl rfl (yv_move rfl) ?_)))))))))
            refine op_fn rfl rfl rfl hH61 ((by have h := c29 (Heap.rdw T.el22_encI hH61 (n := 2) rfl) (by omega); simp only [hexo] at h; exact h)) (fun u65 w63 lo66 hi67 hH64 hv68 => ?_)
            obtain ⟨p70, hu, -⟩ := hv68
            subst hu
            have hH69 := Heap.tup2 hH64 (n := 0) rfl
            refine ops_y hH69 rfl rfl (yv_move rfl) (ops_y hH69 rfl rfl (yv_extract rfl rfl) (ops_y hH69 rfl rfl (yv_extract rfl rfl) (ops_y hH69 rfl rfl (yv_assign rfl) (ops_y hH69 rfl rfl (yv_assign rfl) (ops_nil (thn_n (seq (region (ops_y hH69 rfl rfl (yv_move rfl) ?_)))))))))
            refine op_fn rfl rfl rfl hH69 (c42 (h0.now hH69 (n := 6) rfl) (by omega)) (fun u73 w71 lo74 hi75 hH72 hv76 => ?_)
            obtain ⟨p78, hu, -⟩ := hv76
            subst hu
            have hH77 := Heap.tup2 hH72 (n := 0) rfl
            refine ops_y hH77 rfl rfl (yv_move rfl) (ops_y hH77 rfl rfl (yv_extract rfl rfl) (ops_y hH77 rfl rfl (yv_extract rfl rfl) (ops_y hH77 rfl rfl (yv_assign rfl) (ops_y hH77 rfl rfl (yv_assign rfl) (ops_nil (thn_n (seq (region (ops_y hH77 rfl rfl (yv_move rfl) ?_)))))))))
            refine op_fn rfl rfl rfl hH77 (c42 (Heap.rdw T.el22_encI hH77 (n := 4) rfl) (by omega)) (fun u81 w79 lo82 hi83 hH80 hv84 => ?_)
            obtain ⟨p86, hu, -⟩ := hv84
            subst hu
            have hH85 := Heap.tup2 hH80 (n := 0) rfl
            refine ops_y hH85 rfl rfl (yv_move rfl) (ops_y hH85 rfl rfl (yv_extract rfl rfl) (ops_y hH85 rfl rfl (yv_extract rfl rfl) (ops_y hH85 rfl rfl (yv_assign rfl) (ops_y hH85 rfl rfl (yv_assign rfl) (ops_nil (thn_n (seq (seq (region ?_)))))))))
            refine ops_y hH85 rfl rfl (yv_move rfl) ?_
            refine ops_y hH85 rfl rfl (yv_castB rfl (yv_neq rfl rfl)) ?_
            refine ops_y hH85 rfl rfl (yv_move rfl) (guard_yes rfl rfl rfl (ops_y hH85 rfl rfl (yv_move rfl) (guard_yes rfl rfl rfl ?_)))
            refine ops_y hH85 rfl rfl (yv_castB rfl (yv_neq rfl rfl)) ?_
            refine ops_y hH85 rfl rfl (yv_pick_f rfl rfl rfl) ?_
            refine ops_y hH85 rfl rfl (yv_move rfl) (guard_yes rfl rfl rfl (ops_y hH85 rfl rfl (yv_move rfl) (guard_yes rfl rfl rfl (ops_y hH85 rfl rfl (yv_move rfl) (guard_yes rfl rfl rfl ?_)))))
            refine ops_y hH85 rfl rfl (yv_castB (not_decide_n rfl) (yv_neq rfl rfl)) ?_
            refine ops_y hH85 rfl rfl (yv_pick_f rfl rfl rfl) ?_
            refine ops_y hH85 rfl rfl (yv_move rfl) (guard_yes rfl rfl rfl (ops_y hH85 rfl rfl (yv_move rfl) (guard_yes rfl rfl rfl ?_)))
            refine ops_y hH85 rfl rfl (yv_castB rfl (yv_neq rfl rfl)) ?_
            refine ops_y hH85 rfl rfl (yv_pick_f rfl rfl rfl) ?_
            refine ops_y hH85 rfl rfl (yv_move rfl) (guard_yes rfl rfl rfl (ops_y hH85 rfl rfl (yv_move rfl) (guard_yes rfl rfl rfl ?_)))
            refine ops_y hH85 rfl rfl (yv_castB rfl (yv_neq rfl rfl)) ?_
            refine ops_y hH85 rfl rfl (yv_pick_f rfl rfl rfl) ?_
            refine ops_y hH85 rfl rfl (yv_move rfl) (guard_yes rfl rfl rfl (ops_y hH85 rfl rfl (yv_move rfl) (guard_yes rfl rfl rfl ?_)))
            refine ops_y hH85 rfl rfl (yv_len T.sl29 rfl (Heap.rdw T.el29_encP hH85 (n := 3) rfl).is) ?_
            refine guard_yes rfl rfl rfl (ops_y hH85 rfl rfl (yv_move rfl) (guard_yes rfl rfl rfl ?_))
            refine ops_y hH85 rfl rfl (yv_len T.sl29 rfl (Heap.rdw T.el29_encP hH85 (n := 2) rfl).is) ?_
            refine guard_yes rfl rfl rfl ?_
            refine ops_y hH85 rfl rfl (yv_neq rfl rfl) ?_
            refine ops_y hH85 rfl rfl (yv_pick_f rfl rfl rfl) ?_
            refine ops_y hH85 rfl rfl (yv_move rfl) ?_
            have hc87 : ¬ (¬ (((S.exs l).length : Int) = ((S.exs o).length : Int))) := by omega
            refine guard_yes rfl rfl (not_decide_f hc87) ?_
            refine ops_y hH85 rfl rfl (yv_move rfl) ?_
            refine guard_yes rfl rfl (not_decide_f hc87) ?_
            refine ops_y hH85 rfl rfl (yv_move rfl) ?_
            refine guard_yes rfl rfl (not_decide_f hc87) ?_
            refine ops_y hH85 rfl rfl (yv_neq rfl rfl) ?_
            refine ops_y hH85 rfl rfl (yv_pick_f rfl (not_decide_f hc87) rfl) ?_
            refine ops_nil (thn_n ?_)
            have hc88 : ¬ (¬ (((S.rootR l).2) = ((S.rootR o).2))) := by omega
            refine cond_f rfl (not_decide_f hc88) ?_
            refine skip (thn_n (seq (region (ops_y hH85 rfl rfl (yv_move rfl) (ops_y hH85 rfl rfl (yv_move rfl) ?_)))))
            refine op_fn rfl rfl rfl hH85 (c40 (h0.now hH85 (n := 8) rfl) (Heap.rdw T.el22_encI hH85 (n := 6) rfl) (by omega) (by omega)) (fun u91 w89 lo92 hi93 hH90 hv94 => ?_)
            obtain ⟨p96, hu, -⟩ := hv94
            subst hu
            have hH95 := Heap.tup2 hH90 (n := 0) rfl
            refine ops_y hH95 rfl rfl (yv_move rfl) (ops_y hH95 rfl rfl (yv_extract rfl rfl) (ops_y hH95 rfl rfl (yv_extract rfl rfl) (ops_y hH95 rfl rfl (yv_assign rfl) (ops_y hH95 rfl rfl (yv_assign rfl) (ops_nil (thn_n (seq (region (ops_y hH95 rfl rfl (yv_assign rfl) ?_)))))))))
            refine ops_nil (thn_n (seq (seq (region (ops_y hH95 rfl rfl (yv_assign rfl) (ops_nil (thn_n (block ?_))))))))
            refine loop (S := Nat) (fun q => [(26, (.bool (decide (S.eqTo l (S.giv l.length cs) q)))), (27, (.int .i64 (q : Int))), (0, v), (6, (.bool false)), (8, u19), (12, (.int .i64 ((S.alikeR l (S.giv l.length cs)).2))), (25, p96)]) (fun q w1 => Heap [ow lo92 hi93 3 1 encI p96 ((S.alikeR l (S.giv l.length cs)).1), ow lo82 hi83 3 1 encI p86 ((S.rootR o).1), ow lo74 hi75 3 1 encI p78 ((S.rootR l).1), ow lo66 hi67 70 2 encP p70 (S.exs o), ow lo58 hi59 70 2 encP p62 (S.exs l), ow lo40 hi41 3 1 encI p44 (S.alk l o), ow lo_9 hi_9 3 1 encI v_9 o, ow lo20 hi21 3 1 encI u19 (S.giv l.length cs), ow lo13 hi14 3 1 encI u12 (S.giv l.length bs), base w] w1 ∧ 1 ≤ q ∧ q ≤ l.length + 1) (fun q => l.length + 1 - q) (1) (Sub.cons (congrArg (fun z : Bool => some (Value.bool z)) S.eqTo_one) (Sub.cons rfl (Sub.cons rfl (Sub.cons rfl (Sub.cons rfl (Sub.cons rfl (Sub.cons rfl (Sub.nil _)))))))) ?_ ?_
            · exact ⟨hH95, by omega, by omega⟩
            · rintro q w97 ⟨hH98, hq1, hq⟩
              show Holds _ _ _ _ _ [(26, (.bool (decide (S.eqTo l (S.giv l.length cs) q)))), (27, (.int .i64 (q : Int))), (0, v), (6, (.bool false)), (8, u19), (12, (.int .i64 ((S.alikeR l (S.giv l.length cs)).2))), (25, p96)] _ _
              refine seq (seq (region (ops_y hH98 rfl rfl (yv_move rfl) (ops_y hH98 rfl rfl (yv_move rfl) ?_))))
              refine ops_y hH98 rfl rfl (yv_len T.sl22 rfl (h0.now hH98 (n := 9) rfl).is) ?_
              refine ops_y hH98 rfl rfl (yv_leq rfl rfl) ?_
              refine ops_nil (thn_n ?_)
              by_cases hc99 : (q : Int) ≤ (l.length : Int)
              · skip
                refine cond_t rfl (decide_eq_true hc99) ?_
                refine skip (thn_n (seq (block (region (ops_y hH98 rfl rfl (yv_move rfl) (ops_y hH98 rfl rfl (yv_move rfl) ?_))))))
                by_cases hc100 : S.eqTo l (S.giv l.length cs) q
                · skip
                  refine guard_yes rfl rfl (decide_eq_true hc100) ?_
                  refine ops_y hH98 rfl rfl (yv_move rfl) ?_
                  refine guard_yes rfl rfl (decide_eq_true hc100) ?_
                  refine ops_y hH98 rfl rfl (yv_move rfl) ?_
                  refine guard_yes rfl rfl (decide_eq_true hc100) ?_
                  refine op_fnV rfl rfl rfl hH98 (c65l (h0.now hH98 (n := 9) rfl) hj (by omega)) (fun w101 hH102 => ?_)
                  refine guard_yes rfl rfl (decide_eq_true hc100) ?_
                  refine ops_y hH102 rfl rfl (yv_move rfl) ?_
                  refine guard_yes rfl rfl (decide_eq_true hc100) ?_
                  refine ops_y hH102 rfl rfl (yv_move rfl) ?_
                  refine guard_yes rfl rfl (decide_eq_true hc100) ?_
                  refine op_fnV rfl rfl rfl hH102 (c65l (Heap.rdw T.el22_encI hH102 (n := 7) rfl) hk (by omega)) (fun w103 hH104 => ?_)
                  refine guard_yes rfl rfl (decide_eq_true hc100) ?_
                  refine ops_y hH104 rfl rfl (yv_eql rfl rfl) ?_
                  refine ops_y hH104 rfl rfl (yv_pick_t rfl (decide_eq_true hc100) rfl) ?_
                  refine ops_y hH104 rfl rfl (yv_assign rfl) (ops_nil (blk_n (thn_n (region (ops_y hH104 rfl rfl (yv_move rfl) ?_)))))
                  refine ops_y hH104 rfl rfl (yv_add rfl rfl (by omega)) ?_
                  refine ops_y hH104 rfl rfl (yv_assign rfl) (ops_nil ?_)
                  refine lp_n (q + 1) (Sub.cons (congrArg (fun z : Bool => some (Value.bool z)) (by first | exact S.eqTo_T (by assumption) (by omega) | exact S.eqTo_F (by assumption))) (Sub.cons rfl (Sub.cons rfl (Sub.cons rfl (Sub.cons rfl (Sub.cons rfl (Sub.cons rfl (Sub.nil _)))))))) ?_ ?_
                  · exact ⟨hH104, by omega, by omega⟩
                  · first | (dsimp only; omega) | (show _ < _; omega)
                · skip
                  refine guard_no rfl rfl (decide_eq_false hc100) rfl ?_
                  refine guard_no rfl rfl (decide_eq_false hc100) rfl ?_
                  refine guard_no rfl rfl (decide_eq_false hc100) rfl ?_
                  refine guard_no rfl rfl (decide_eq_false hc100) rfl ?_
                  refine guard_no rfl rfl (decide_eq_false hc100) rfl ?_
                  refine guard_no rfl rfl (decide_eq_false hc100) rfl ?_
                  refine guard_no rfl rfl (decide_eq_false hc100) rfl ?_
                  refine ops_y hH98 rfl rfl (yv_pick_f rfl (decide_eq_false hc100) rfl) ?_
                  refine ops_y hH98 rfl rfl (yv_assign rfl) (ops_nil (blk_n (thn_n (region (ops_y hH98 rfl rfl (yv_move rfl) ?_)))))
                  refine ops_y hH98 rfl rfl (yv_add rfl rfl (by omega)) ?_
                  refine ops_y hH98 rfl rfl (yv_assign rfl) (ops_nil ?_)
                  refine lp_n (q + 1) (Sub.cons (congrArg (fun z : Bool => some (Value.bool z)) (by first | exact S.eqTo_T (by assumption) (by omega) | exact S.eqTo_F (by assumption))) (Sub.cons rfl (Sub.cons rfl (Sub.cons rfl (Sub.cons rfl (Sub.cons rfl (Sub.cons rfl (Sub.nil _)))))))) ?_ ?_
                  · exact ⟨hH98, by omega, by omega⟩
                  · first | (dsimp only; omega) | (show _ < _; omega)
              · skip
                refine cond_f rfl (decide_eq_false hc99) ?_
                refine exit (thn_x (lp_x (blk_here (thn_n (seq (seq ?_))))))
                by_cases hc105 : S.eqTo l (S.giv l.length cs) q
                · skip
                  have hqe : q = l.length + 1 := by omega
                  have heq9 := hqe ▸ S.eqTo_counts hj hk (by omega)
                  have hsm : S.eqTo l (S.giv l.length cs) q := ‹_›
                  have hc2 := heq9.1 hsm
                  have ha2 := S.al3 (hj.two hk (by omega)) hc2
                  have he2 : (S.alikeR l (S.giv l.length cs)).2 = 0 := by rw [ha2]
                  have hi2 : S.IsAl l (S.giv l.length cs) (S.alikeR l (S.giv l.length cs)).1 := by rw [ha2]; exact S.alk_isal hj hk (by omega) ((S.counts_iff hj hk).1 hc2)
                  have hll := hi2.1
                  refine region (ops_y hH98 rfl rfl (yv_move rfl) ?_)
                  refine ops_y hH98 rfl rfl (yv_castB (bnot_f (decide_eq_true hc105)) (yv_not rfl)) ?_
                  refine ops_nil (thn_n ?_)
                  refine cond_f rfl rfl ?_
                  refine skip (thn_n (seq (region (ops_y hH98 rfl rfl (yv_move rfl) ?_))))
                  refine ops_y hH98 rfl rfl (yv_eql rfl rfl) ?_
                  refine ops_y hH98 rfl rfl (yv_move rfl) ?_
                  have hc106 : ((S.alikeR l (S.giv l.length cs)).2) = 0 := by omega
                  refine guard_yes rfl rfl (decide_eq_true hc106) ?_
                  refine ops_y hH98 rfl rfl (yv_move rfl) ?_
                  refine guard_yes rfl rfl (decide_eq_true hc106) ?_
                  refine ops_y hH98 rfl rfl (yv_move rfl) ?_
                  refine guard_yes rfl rfl (decide_eq_true hc106) ?_
                  refine ops_y hH98 rfl rfl (yv_move rfl) ?_
                  refine guard_yes rfl rfl (decide_eq_true hc106) ?_
                  refine op_fnV rfl rfl rfl hH98 (c62 (h0.now hH98 (n := 9) rfl) (Heap.rdw T.el22_encI hH98 (n := 7) rfl) (Heap.rdw T.el22_encI hH98 (n := 0) rfl) hj (by omega) (by omega)) (fun w107 hH108 => ?_)
                  refine ops_y hH108 rfl rfl (yv_pick_t rfl (decide_eq_true hc106) rfl) ?_
                  refine ops_y hH108 rfl rfl (yv_move rfl) ?_
                  have hc109 : S.IsAl l (S.giv l.length cs) (S.alikeR l (S.giv l.length cs)).1 := by omega
                  refine guard_yes rfl rfl (decide_eq_true hc109) ?_
                  refine op_fnV rfl rfl rfl hH108 (c18) (fun w110 hH111 => ?_)
                  refine ops_y hH111 rfl rfl (yv_pick_t rfl (decide_eq_true hc109) rfl) ?_
                  refine ops_y hH111 rfl rfl (yv_assign rfl) (ops_nil (thn_n (ret ?_)))
                  have hH112 := (hH111.sub (List.Sublist.cons _ (List.Sublist.cons _ (List.Sublist.cons _ (List.Sublist.cons _ (List.Sublist.cons _ (List.Sublist.cons _ (List.Sublist.cons _ (List.Sublist.cons _ (List.Sublist.cons _ (List.Sublist.refl _)))))))))))
                  refine fin hH112 (fun w' hf => (res1 rfl (show RV _ _ _ (.tmp 6) _ from rfl))) (fun w' hf => ?_)
                  rfl
                · skip
                  have hqe : q = l.length + 1 := by omega
                  have heq9 := hqe ▸ S.eqTo_counts hj hk (by omega)
                  have hsm : ¬ S.eqTo l (S.giv l.length cs) q := ‹_›
                  have ha2 := S.al2 (hj.two hk (by omega)) (fun h => hsm (heq9.2 h))
                  have he2 : (S.alikeR l (S.giv l.length cs)).2 = 20 := by rw [ha2]
                  have hll : (S.alikeR l (S.giv l.length cs)).1.length = 0 := by rw [ha2]; rfl
                  refine region (ops_y hH98 rfl rfl (yv_move rfl) ?_)
                  refine ops_y hH98 rfl rfl (yv_castB (bnot_t (decide_eq_false hc105)) (yv_not rfl)) ?_
                  refine ops_nil (thn_n ?_)
                  refine cond_t rfl rfl ?_
                  refine seq (region (ops_y hH98 rfl rfl (yv_move rfl) ?_))
                  refine ops_y hH98 rfl rfl (yv_eql rfl rfl) ?_
                  refine ops_y hH98 rfl rfl (yv_move rfl) ?_
                  have hc113 : ((S.alikeR l (S.giv l.length cs)).2) = 20 := by omega
                  refine guard_yes rfl rfl (decide_eq_true hc113) ?_
                  refine ops_y hH98 rfl rfl (yv_move rfl) ?_
                  refine guard_yes rfl rfl (decide_eq_true hc113) ?_
                  refine ops_y hH98 rfl rfl (yv_len T.sl22 rfl (Heap.rdw T.el22_encI hH98 (n := 0) rfl).is) ?_
                  refine guard_yes rfl rfl (decide_eq_true hc113) ?_
                  refine ops_y hH98 rfl rfl (yv_eql rfl rfl) ?_
                  refine ops_y hH98 rfl rfl (yv_pick_t rfl (decide_eq_true hc113) rfl) ?_
                  refine ops_y hH98 rfl rfl (yv_move rfl) ?_
                  have hc114 : (((S.alikeR l (S.giv l.length cs)).1).length : Int) = 0 := by omega
                  refine guard_yes rfl rfl (decide_eq_true hc114) ?_
                  refine op_fnV rfl rfl rfl hH98 (c18) (fun w115 hH116 => ?_)
                  refine ops_y hH116 rfl rfl (yv_pick_t rfl (decide_eq_true hc114) rfl) ?_
                  refine ops_y hH116 rfl rfl (yv_assign rfl) (ops_nil (thn_n (ret (thn_r ?_))))
                  have hH117 := (hH116.sub (List.Sublist.cons _ (List.Sublist.cons _ (List.Sublist.cons _ (List.Sublist.cons _ (List.Sublist.cons _ (List.Sublist.cons _ (List.Sublist.cons _ (List.Sublist.cons _ (List.Sublist.cons _ (List.Sublist.refl _)))))))))))
                  refine fin hH117 (fun w' hf => (res1 rfl (show RV _ _ _ (.tmp 6) _ from rfl))) (fun w' hf => ?_)
                  rfl
  · skip
    have hnj : ¬ S.J l := ‹_›
    refine region (ops_y hH rfl rfl (yv_move rfl) ?_)
    refine op_fnV rfl rfl rfl hH (c56 (h0.now hH (n := 0) rfl)) (fun w118 hH119 => ?_)
    refine ops_y hH119 rfl rfl (yv_castB (bnot_t (decide_eq_false hc1)) (yv_not rfl)) ?_
    refine ops_y hH119 rfl rfl (yv_move rfl) (guard_no rfl rfl rfl rfl (guard_no rfl rfl rfl rfl (guard_no rfl rfl rfl rfl ?_)))
    refine ops_y hH119 rfl rfl (yv_pick_t rfl rfl rfl) ?_
    refine ops_y hH119 rfl rfl (yv_move rfl) (guard_no rfl rfl rfl rfl (guard_no rfl rfl rfl rfl (guard_no rfl rfl rfl rfl ?_)))
    refine ops_y hH119 rfl rfl (yv_pick_t rfl rfl rfl) ?_
    refine ops_nil (thn_n ?_)
    refine cond_t rfl rfl ?_
    refine seq (region ?_)
    refine op_fnV rfl rfl rfl hH119 (c18) (fun w120 hH121 => ?_)
    refine ops_y hH121 rfl rfl (yv_assign rfl) (ops_nil (thn_n (ret (thn_r ?_))))
    refine fin hH121 (fun w' hf => (res1 rfl (show RV _ _ _ (.tmp 6) _ from rfl))) (fun w' hf => ?_)
    rfl

end Go.Fip
