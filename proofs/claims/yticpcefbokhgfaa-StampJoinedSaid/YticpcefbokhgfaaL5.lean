/- Walks, by program (wip/tools). -/
import Derived.Test.YticpcefbokhgfaaMJ
import Derived.Test.YticpcefbokhgfaaMI
set_option linter.unusedVariables false
set_option linter.unusedSimpArgs false
set_option linter.unusedSectionVars false
set_option linter.unnecessarySimpa false
namespace Go.Fip
open Go.Proofs Go.RowKit

theorem c11 {v vb vc : Value} {l bs cs : List Int} {w : World} (h0 : Rd encI 1 v l w) (hb : Rd encB 1 vb bs w) (hby : ∀ x ∈ bs, 0 ≤ x ∧ x ≤ 255) (hcb : Rd encB 1 vc cs w) (hcy : ∀ x ∈ cs, 0 ≤ x ∧ x ≤ 255)  :
    Fn Try.prog 11 [v, vb, vc].toArray w (fun u _ => u = .bool true) := by
  refine fn_of' (args := [v, vb, vc]) Try.func11 rfl (ent Try.func11 (by kernel_rfl) rfl) rfl rfl (fun hH => ?_)
  refine seq (region (ops_y hH rfl rfl (yv_assign rfl) (ops_nil (thn_n (seq (seq ?_))))))
  by_cases hc1 : S.J l
  · skip
    have hj : S.J l := ‹_›
    have hc0 : S.check l 0 = 0 := S.check_iff.2 hj
    have hl1 := hj.1
    have hl10 := hj.2.1
    have hm := S.giv_J (n := l.length) (bs := bs) hl1 hl10 hby
    have hk := S.giv_J (n := l.length) (bs := cs) hl1 hl10 hcy
    have hml := S.giv_len (n := l.length) (bs := bs)
    have hkl := S.giv_len (n := l.length) (bs := cs)
    have hJ1 := hj.beh hm (by omega)
    have hJ2 := hm.beh hj (by omega)
    have hJ3 := hm.beh hk (by omega)
    have hL1 : (S.behind l (S.giv l.length bs)).length = l.length := S.behind_length
    have hL2 : (S.behind (S.giv l.length bs) l).length = l.length := S.behind_length.trans hml
    have hL3 : (S.behind (S.giv l.length bs) (S.giv l.length cs)).length = l.length := S.behind_length.trans hml
    have hL4 : (S.behind l (S.behind (S.giv l.length bs) (S.giv l.length cs))).length = l.length := S.behind_length
    have hjo1 := S.jn2 (hj.two hm (by omega))
    have hjo2 := S.jn2 (hm.two hj (by omega))
    have hjo3 := S.jn2 (hm.two hk (by omega))
    have hjo4 : S.join (S.behind l (S.giv l.length bs)) (S.giv l.length cs) = (S.behind l (S.behind (S.giv l.length bs) (S.giv l.length cs)), 0) := by rw [S.jn2 (hJ1.two hk (by omega)), S.behind_assoc hj hm (by omega)]
    have hjo5 := S.jn2 (hj.two hJ3 (by omega))
    have hmany := (S.conj_joined hj hm (by omega)).many hJ1 hJ2 hj
    have hcq := S.cyc_eq hJ1 hJ2 hmany
    have hci1 := S.ci2 (S.check_iff.2 hJ1)
    have hci2 := S.ci2 (S.check_iff.2 hJ2)
    have hcl1 := S.circles_len (l := (S.behind l (S.giv l.length bs)))
    have hcl2 := S.circles_len (l := (S.behind (S.giv l.length bs) l))
    have halk := S.al3 (hJ1.two hJ2 (by omega)) ((S.counts_iff hJ1 hJ2).2 hmany)
    have hisa := S.alk_isal hJ1 hJ2 (by omega) hmany
    have hall := S.alk_length hJ1 hJ2 (by omega) hmany
    refine region (ops_y hH rfl rfl (yv_move rfl) ?_)
    refine op_fnV rfl rfl rfl hH (c56 (h0.now hH (n := 0) rfl)) (fun w2 hH3 => ?_)
    refine ops_y hH3 rfl rfl (yv_castB (bnot_f (decide_eq_true hc1)) (yv_not rfl)) ?_
    refine ops_y hH3 rfl rfl (yv_move rfl) (guard_yes rfl rfl rfl (ops_y hH3 rfl rfl (yv_move rfl) (guard_yes rfl rfl rfl ?_)))
    refine ops_y hH3 rfl rfl (yv_len T.sl53 rfl ((hb.now hH3 (n := 0) rfl)).is) ?_
    refine guard_yes rfl rfl rfl ?_
    refine ops_y hH3 rfl rfl (yv_gtr rfl rfl) ?_
    refine ops_y hH3 rfl rfl (yv_pick_f rfl rfl rfl) ?_
    refine ops_y hH3 rfl rfl (yv_move rfl) ?_
    by_cases hc4 : 20 < (bs.length : Int)
    · skip
      refine guard_no rfl rfl (decide_eq_true hc4) rfl ?_
      refine guard_no rfl rfl (decide_eq_true hc4) rfl ?_
      refine guard_no rfl rfl (decide_eq_true hc4) rfl ?_
      refine ops_y hH3 rfl rfl (yv_pick_t rfl (decide_eq_true hc4) rfl) ?_
      refine ops_nil (thn_n ?_)
      refine cond_t rfl rfl ?_
      refine seq (region ?_)
      refine op_fnV rfl rfl rfl hH3 (c18) (fun w5 hH6 => ?_)
      refine ops_y hH6 rfl rfl (yv_assign rfl) (ops_nil (thn_n (ret (thn_r ?_))))
      refine fin hH6 (fun w' hf => (res1 rfl (show RV _ _ _ (.tmp 6) _ from rfl))) (fun w' hf => ?_)
      rfl
    · skip
      refine guard_yes rfl rfl (decide_eq_false hc4) ?_
      refine ops_y hH3 rfl rfl (yv_move rfl) ?_
      refine guard_yes rfl rfl (decide_eq_false hc4) ?_
      refine ops_y hH3 rfl rfl (yv_len T.sl53 rfl ((hcb.now hH3 (n := 0) rfl)).is) ?_
      refine guard_yes rfl rfl (decide_eq_false hc4) ?_
      refine ops_y hH3 rfl rfl (yv_gtr rfl rfl) ?_
      refine ops_y hH3 rfl rfl (yv_pick_f rfl (decide_eq_false hc4) rfl) ?_
      refine ops_nil (thn_n ?_)
      by_cases hc7 : 20 < (cs.length : Int)
      · skip
        refine cond_t rfl (decide_eq_true hc7) ?_
        refine seq (region ?_)
        refine op_fnV rfl rfl rfl hH3 (c18) (fun w8 hH9 => ?_)
        refine ops_y hH9 rfl rfl (yv_assign rfl) (ops_nil (thn_n (ret (thn_r ?_))))
        refine fin hH9 (fun w' hf => (res1 rfl (show RV _ _ _ (.tmp 6) _ from rfl))) (fun w' hf => ?_)
        rfl
      · skip
        refine cond_f rfl (decide_eq_false hc7) ?_
        refine skip (thn_n (seq (region (ops_y hH3 rfl rfl (yv_move rfl) ?_))))
        refine ops_y hH3 rfl rfl (yv_len T.sl22 rfl (h0.now hH3 (n := 0) rfl).is) ?_
        refine ops_y hH3 rfl rfl (yv_move rfl) ?_
        refine op_fn rfl rfl rfl hH3 ((by have h := c61 (n := (l.length : Int)) ((hb.now hH3 (n := 0) rfl)) hby (by omega) (by omega) (by omega); simp only [Int.toNat_natCast] at h; exact h)) (fun u12 w10 lo13 hi14 hH11 hv15 => ?_)
        have hH16 := Heap.toOw hH11 (n := 0) rfl
        refine ops_y hH16 rfl rfl (yv_move rfl) ?_
        refine ops_y hH16 rfl rfl (yv_len T.sl22 rfl (h0.now hH16 (n := 1) rfl).is) ?_
        refine ops_y hH16 rfl rfl (yv_move rfl) ?_
        refine op_fn rfl rfl rfl hH16 ((by have h := c61 (n := (l.length : Int)) ((hcb.now hH16 (n := 1) rfl)) hcy (by omega) (by omega) (by omega); simp only [Int.toNat_natCast] at h; exact h)) (fun u19 w17 lo20 hi21 hH18 hv22 => ?_)
        have hH23 := Heap.toOw hH18 (n := 0) rfl
        refine ops_y hH23 rfl rfl (yv_assign rfl) (ops_y hH23 rfl rfl (yv_assign rfl) (ops_nil (thn_n (seq (region (ops_y hH23 rfl rfl (yv_move rfl) (ops_y hH23 rfl rfl (yv_move rfl) ?_)))))))
        refine op_fn rfl rfl rfl hH23 ((by have h := c38 (h0.now hH23 (n := 2) rfl) (Heap.rdw T.el22_encI hH23 (n := 1) rfl) (by omega) (by omega); simp only [hjo1] at h; exact h)) (fun u26 w24 lo27 hi28 hH25 hv29 => ?_)
        obtain ⟨p31, hu, -⟩ := hv29
        subst hu
        have hH30 := Heap.tup2 hH25 (n := 0) rfl
        refine ops_y hH30 rfl rfl (yv_move rfl) (ops_y hH30 rfl rfl (yv_extract rfl rfl) (ops_y hH30 rfl rfl (yv_extract rfl rfl) (ops_y hH30 rfl rfl (yv_assign rfl) (ops_y hH30 rfl rfl (yv_assign rfl) (ops_nil (thn_n (seq (region (ops_y hH30 rfl rfl (yv_move rfl) ?_)))))))))
        refine ops_y hH30 rfl rfl (yv_move rfl) ?_
        refine op_fn rfl rfl rfl hH30 ((by have h := c38 (Heap.rdw T.el22_encI hH30 (n := 2) rfl) (h0.now hH30 (n := 3) rfl) (by omega) (by omega); simp only [hjo2] at h; exact h)) (fun u34 w32 lo35 hi36 hH33 hv37 => ?_)
        obtain ⟨p39, hu, -⟩ := hv37
        subst hu
        have hH38 := Heap.tup2 hH33 (n := 0) rfl
        refine ops_y hH38 rfl rfl (yv_move rfl) (ops_y hH38 rfl rfl (yv_extract rfl rfl) (ops_y hH38 rfl rfl (yv_extract rfl rfl) (ops_y hH38 rfl rfl (yv_assign rfl) (ops_y hH38 rfl rfl (yv_assign rfl) (ops_nil (thn_n (seq (region (ops_y hH38 rfl rfl (yv_move rfl) ?_)))))))))
        refine ops_y hH38 rfl rfl (yv_move rfl) ?_
        refine op_fn rfl rfl rfl hH38 ((by have h := c38 (Heap.rdw T.el22_encI hH38 (n := 3) rfl) (Heap.rdw T.el22_encI hH38 (n := 2) rfl) (by omega) (by omega); simp only [hjo3] at h; exact h)) (fun u42 w40 lo43 hi44 hH41 hv45 => ?_)
        obtain ⟨p47, hu, -⟩ := hv45
        subst hu
        have hH46 := Heap.tup2 hH41 (n := 0) rfl
        refine ops_y hH46 rfl rfl (yv_move rfl) (ops_y hH46 rfl rfl (yv_extract rfl rfl) (ops_y hH46 rfl rfl (yv_extract rfl rfl) (ops_y hH46 rfl rfl (yv_assign rfl) (ops_y hH46 rfl rfl (yv_assign rfl) (ops_nil (thn_n (seq (seq (region ?_)))))))))
        refine ops_y hH46 rfl rfl (yv_move rfl) ?_
        refine ops_y hH46 rfl rfl (yv_castB rfl (yv_neq rfl rfl)) ?_
        refine ops_y hH46 rfl rfl (yv_move rfl) (guard_yes rfl rfl rfl (ops_y hH46 rfl rfl (yv_move rfl) (guard_yes rfl rfl rfl ?_)))
        refine ops_y hH46 rfl rfl (yv_castB rfl (yv_neq rfl rfl)) ?_
        refine ops_y hH46 rfl rfl (yv_pick_f rfl rfl rfl) ?_
        refine ops_y hH46 rfl rfl (yv_move rfl) (guard_yes rfl rfl rfl (ops_y hH46 rfl rfl (yv_move rfl) (guard_yes rfl rfl rfl ?_)))
        refine ops_y hH46 rfl rfl (yv_castB rfl (yv_neq rfl rfl)) ?_
        refine ops_y hH46 rfl rfl (yv_pick_f rfl rfl rfl) ?_
        refine ops_y hH46 rfl rfl (yv_move rfl) (guard_yes rfl rfl rfl (ops_y hH46 rfl rfl (yv_move rfl) (guard_yes rfl rfl rfl ?_)))
        refine op_fnV rfl rfl rfl hH46 (c56 (Heap.rdw T.el22_encI hH46 (n := 2) rfl)) (fun w48 hH49 => ?_)
        refine guard_yes rfl rfl rfl ?_
        refine ops_y hH49 rfl rfl (yv_not rfl) ?_
        refine ops_y hH49 rfl rfl (yv_pick_f rfl rfl rfl) ?_
        refine ops_y hH49 rfl rfl (yv_move rfl) ?_
        have hc50 : ¬ (¬ (S.J (S.behind l (S.giv l.length bs)))) := fun h => h hJ1
        refine guard_yes rfl rfl (not_decide_f hc50) ?_
        refine ops_y hH49 rfl rfl (yv_move rfl) ?_
        refine guard_yes rfl rfl (not_decide_f hc50) ?_
        refine op_fnV rfl rfl rfl hH49 (c56 (Heap.rdw T.el22_encI hH49 (n := 1) rfl)) (fun w51 hH52 => ?_)
        refine guard_yes rfl rfl (not_decide_f hc50) ?_
        refine ops_y hH52 rfl rfl (yv_not rfl) ?_
        refine ops_y hH52 rfl rfl (yv_pick_f rfl (not_decide_f hc50) rfl) ?_
        refine ops_y hH52 rfl rfl (yv_move rfl) ?_
        have hc53 : ¬ (¬ (S.J (S.behind (S.giv l.length bs) l))) := fun h => h hJ2
        refine guard_yes rfl rfl (not_decide_f hc53) ?_
        refine ops_y hH52 rfl rfl (yv_move rfl) ?_
        refine guard_yes rfl rfl (not_decide_f hc53) ?_
        refine op_fnV rfl rfl rfl hH52 (c56 (Heap.rdw T.el22_encI hH52 (n := 0) rfl)) (fun w54 hH55 => ?_)
        refine guard_yes rfl rfl (not_decide_f hc53) ?_
        refine ops_y hH55 rfl rfl (yv_not rfl) ?_
        refine ops_y hH55 rfl rfl (yv_pick_f rfl (not_decide_f hc53) rfl) ?_
        refine ops_nil (thn_n ?_)
        have hc56 : ¬ (¬ (S.J (S.behind (S.giv l.length bs) (S.giv l.length cs)))) := fun h => h hJ3
        refine cond_f rfl (not_decide_f hc56) ?_
        refine skip (thn_n (seq (region (ops_y hH55 rfl rfl (yv_move rfl) (ops_y hH55 rfl rfl (yv_move rfl) ?_)))))
        refine op_fn rfl rfl rfl hH55 ((by have h := c38 (Heap.rdw T.el22_encI hH55 (n := 2) rfl) (Heap.rdw T.el22_encI hH55 (n := 3) rfl) (by omega) (by omega); simp only [hjo4] at h; exact h)) (fun u59 w57 lo60 hi61 hH58 hv62 => ?_)
        obtain ⟨p64, hu, -⟩ := hv62
        subst hu
        have hH63 := Heap.tup2 hH58 (n := 0) rfl
        refine ops_y hH63 rfl rfl (yv_move rfl) (ops_y hH63 rfl rfl (yv_extract rfl rfl) (ops_y hH63 rfl rfl (yv_extract rfl rfl) (ops_y hH63 rfl rfl (yv_assign rfl) (ops_y hH63 rfl rfl (yv_assign rfl) (ops_nil (thn_n (seq (region (ops_y hH63 rfl rfl (yv_move rfl) ?_)))))))))
        refine ops_y hH63 rfl rfl (yv_move rfl) ?_
        refine op_fn rfl rfl rfl hH63 ((by have h := c38 (h0.now hH63 (n := 6) rfl) (Heap.rdw T.el22_encI hH63 (n := 1) rfl) (by omega) (by omega); simp only [hjo5] at h; exact h)) (fun u67 w65 lo68 hi69 hH66 hv70 => ?_)
        obtain ⟨p72, hu, -⟩ := hv70
        subst hu
        have hH71 := Heap.tup2 hH66 (n := 0) rfl
        refine ops_y hH71 rfl rfl (yv_move rfl) (ops_y hH71 rfl rfl (yv_extract rfl rfl) (ops_y hH71 rfl rfl (yv_extract rfl rfl) (ops_y hH71 rfl rfl (yv_assign rfl) (ops_y hH71 rfl rfl (yv_assign rfl) (ops_nil (thn_n (seq (region (ops_y hH71 rfl rfl (yv_move rfl) ?_)))))))))
        refine op_fn rfl rfl rfl hH71 ((by have h := c19 (Heap.rdw T.el22_encI hH71 (n := 4) rfl) (by omega); simp only [hci1] at h; exact h)) (fun u75 w73 lo76 hi77 hH74 hv78 => ?_)
        obtain ⟨p81, hu, -⟩ := hv78
        subst hu
        obtain ⟨TT79, hH80⟩ := Heap.tupRows hH74 (n := 0) rfl
        have hTl82 := (show RowsAt p81 TT79 (S.circles (S.behind l (S.giv l.length bs))) _ from hH80.get (n := 0) rfl).2.1
        refine ops_y hH80 rfl rfl (yv_move rfl) (ops_y hH80 rfl rfl (yv_extract rfl rfl) (ops_y hH80 rfl rfl (yv_extract rfl rfl) (ops_y hH80 rfl rfl (yv_assign rfl) (ops_y hH80 rfl rfl (yv_assign rfl) (ops_nil (thn_n (seq (region (ops_y hH80 rfl rfl (yv_move rfl) ?_)))))))))
        refine op_fn rfl rfl rfl hH80 ((by have h := c19 (Heap.rdw T.el22_encI hH80 (n := 4) rfl) (by omega); simp only [hci2] at h; exact h)) (fun u85 w83 lo86 hi87 hH84 hv88 => ?_)
        obtain ⟨p91, hu, -⟩ := hv88
        subst hu
        obtain ⟨TT89, hH90⟩ := Heap.tupRows hH84 (n := 0) rfl
        have hTl92 := (show RowsAt p91 TT89 (S.circles (S.behind (S.giv l.length bs) l)) _ from hH90.get (n := 0) rfl).2.1
        refine ops_y hH90 rfl rfl (yv_move rfl) (ops_y hH90 rfl rfl (yv_extract rfl rfl) (ops_y hH90 rfl rfl (yv_extract rfl rfl) (ops_y hH90 rfl rfl (yv_assign rfl) (ops_y hH90 rfl rfl (yv_assign rfl) (ops_nil (thn_n (seq (region (ops_y hH90 rfl rfl (yv_move rfl) ?_)))))))))
        refine ops_y hH90 rfl rfl (yv_move rfl) ?_
        refine op_fn rfl rfl rfl hH90 ((by have h := c40 (Heap.rdw T.el22_encI hH90 (n := 6) rfl) (Heap.rdw T.el22_encI hH90 (n := 5) rfl) (by omega) (by omega); simp only [halk] at h; exact h)) (fun u95 w93 lo96 hi97 hH94 hv98 => ?_)
        obtain ⟨p100, hu, -⟩ := hv98
        subst hu
        have hH99 := Heap.tup2 hH94 (n := 0) rfl
        refine ops_y hH99 rfl rfl (yv_move rfl) (ops_y hH99 rfl rfl (yv_extract rfl rfl) (ops_y hH99 rfl rfl (yv_extract rfl rfl) (ops_y hH99 rfl rfl (yv_assign rfl) (ops_y hH99 rfl rfl (yv_assign rfl) (ops_nil (thn_n (seq (region (ops_y hH99 rfl rfl (yv_move rfl) ?_)))))))))
        refine ops_y hH99 rfl rfl (yv_castB rfl (yv_eql rfl rfl)) ?_
        refine ops_y hH99 rfl rfl (yv_move rfl) (guard_yes rfl rfl rfl (ops_y hH99 rfl rfl (yv_move rfl) (guard_yes rfl rfl rfl ?_)))
        refine ops_y hH99 rfl rfl (yv_castB rfl (yv_eql rfl rfl)) ?_
        refine ops_y hH99 rfl rfl (yv_pick_t rfl rfl rfl) ?_
        refine ops_y hH99 rfl rfl (yv_move rfl) (guard_yes rfl rfl rfl (ops_y hH99 rfl rfl (yv_move rfl) (guard_yes rfl rfl rfl (ops_y hH99 rfl rfl (yv_move rfl) (guard_yes rfl rfl rfl ?_)))))
        refine op_fnV rfl rfl rfl hH99 (c33 (Heap.rdw T.el22_encI hH99 (n := 4) rfl) (Heap.rdw T.el22_encI hH99 (n := 3) rfl) (by omega) (by omega)) (fun w101 hH102 => ?_)
        refine ops_y hH102 rfl rfl (yv_pick_t rfl rfl rfl) ?_
        refine ops_y hH102 rfl rfl (yv_move rfl) ?_
        refine guard_yes rfl rfl (decide_eq_true rfl) ?_
        refine ops_y hH102 rfl rfl (yv_move rfl) ?_
        refine guard_yes rfl rfl (decide_eq_true rfl) ?_
        refine ops_y hH102 rfl rfl (yv_castB rfl (yv_eql rfl rfl)) ?_
        refine ops_y hH102 rfl rfl (yv_pick_t rfl (decide_eq_true rfl) rfl) ?_
        refine ops_y hH102 rfl rfl (yv_move rfl) (guard_yes rfl rfl rfl (ops_y hH102 rfl rfl (yv_move rfl) (guard_yes rfl rfl rfl ?_)))
        refine ops_y hH102 rfl rfl (yv_castB rfl (yv_eql rfl rfl)) ?_
        refine ops_y hH102 rfl rfl (yv_pick_t rfl rfl rfl) ?_
        refine ops_y hH102 rfl rfl (yv_move rfl) (guard_yes rfl rfl rfl (ops_y hH102 rfl rfl (yv_move rfl) (guard_yes rfl rfl rfl ?_)))
        refine ops_y hH102 rfl rfl (yv_len T.sl25 rfl (((show RowsAt p81 TT79 (S.circles (S.behind l (S.giv l.length bs))) _ from hH102.get (n := 2) rfl)).1).is) ?_
        refine guard_yes rfl rfl rfl (ops_y hH102 rfl rfl (yv_move rfl) (guard_yes rfl rfl rfl ?_))
        refine ops_y hH102 rfl rfl (yv_len T.sl25 rfl (((show RowsAt p91 TT89 (S.circles (S.behind (S.giv l.length bs) l)) _ from hH102.get (n := 1) rfl)).1).is) ?_
        refine guard_yes rfl rfl rfl ?_
        refine ops_y hH102 rfl rfl (yv_eql rfl rfl) ?_
        refine ops_y hH102 rfl rfl (yv_pick_t rfl rfl rfl) ?_
        refine ops_y hH102 rfl rfl (yv_move rfl) ?_
        have hc103 : (TT79.length : Int) = (TT89.length : Int) := by omega
        refine guard_yes rfl rfl (decide_eq_true hc103) ?_
        refine ops_y hH102 rfl rfl (yv_move rfl) ?_
        refine guard_yes rfl rfl (decide_eq_true hc103) ?_
        refine ops_y hH102 rfl rfl (yv_castB rfl (yv_eql rfl rfl)) ?_
        refine ops_y hH102 rfl rfl (yv_pick_t rfl (decide_eq_true hc103) rfl) ?_
        refine ops_y hH102 rfl rfl (yv_move rfl) (guard_yes rfl rfl rfl (ops_y hH102 rfl rfl (yv_move rfl) (guard_yes rfl rfl rfl (ops_y hH102 rfl rfl (yv_move rfl) (guard_yes rfl rfl rfl (ops_y hH102 rfl rfl (yv_move rfl) (guard_yes rfl rfl rfl ?_)))))))
        refine op_fnV rfl rfl rfl hH102 (c62 (Heap.rdw T.el22_encI hH102 (n := 7) rfl) (Heap.rdw T.el22_encI hH102 (n := 6) rfl) (Heap.rdw T.el22_encI hH102 (n := 0) rfl) hJ1 (by omega) (by omega)) (fun w104 hH105 => ?_)
        refine ops_y hH105 rfl rfl (yv_pick_t rfl rfl rfl) ?_
        refine ops_y hH105 rfl rfl (yv_move rfl) ?_
        have hc106 : S.IsAl (S.behind l (S.giv l.length bs)) (S.behind (S.giv l.length bs) l) (S.alk (S.behind l (S.giv l.length bs)) (S.behind (S.giv l.length bs) l)) := hisa
        refine guard_yes rfl rfl (decide_eq_true hc106) ?_
        refine op_fnV rfl rfl rfl hH105 (c18) (fun w107 hH108 => ?_)
        refine ops_y hH108 rfl rfl (yv_pick_t rfl (decide_eq_true hc106) rfl) ?_
        refine ops_y hH108 rfl rfl (yv_assign rfl) (ops_nil (thn_n (ret ?_)))
        have hH109 := (hH108.sub (List.Sublist.cons _ (List.Sublist.cons _ (List.Sublist.cons _ (List.Sublist.cons _ (List.Sublist.cons _ (List.Sublist.cons _ (List.Sublist.cons _ (List.Sublist.cons _ (List.Sublist.cons _ (List.Sublist.cons _ (List.Sublist.refl _))))))))))))
        refine fin hH109 (fun w' hf => (res1 rfl (show RV _ _ _ (.tmp 6) _ from rfl))) (fun w' hf => ?_)
        rfl
  · skip
    have hnj : ¬ S.J l := ‹_›
    refine region (ops_y hH rfl rfl (yv_move rfl) ?_)
    refine op_fnV rfl rfl rfl hH (c56 (h0.now hH (n := 0) rfl)) (fun w110 hH111 => ?_)
    refine ops_y hH111 rfl rfl (yv_castB (bnot_t (decide_eq_false hc1)) (yv_not rfl)) ?_
    refine ops_y hH111 rfl rfl (yv_move rfl) (guard_no rfl rfl rfl rfl (guard_no rfl rfl rfl rfl (guard_no rfl rfl rfl rfl ?_)))
    refine ops_y hH111 rfl rfl (yv_pick_t rfl rfl rfl) ?_
    refine ops_y hH111 rfl rfl (yv_move rfl) (guard_no rfl rfl rfl rfl (guard_no rfl rfl rfl rfl (guard_no rfl rfl rfl rfl ?_)))
    refine ops_y hH111 rfl rfl (yv_pick_t rfl rfl rfl) ?_
    refine ops_nil (thn_n ?_)
    refine cond_t rfl rfl ?_
    refine seq (region ?_)
    refine op_fnV rfl rfl rfl hH111 (c18) (fun w112 hH113 => ?_)
    refine ops_y hH113 rfl rfl (yv_assign rfl) (ops_nil (thn_n (ret (thn_r ?_))))
    refine fin hH113 (fun w' hf => (res1 rfl (show RV _ _ _ (.tmp 6) _ from rfl))) (fun w' hf => ?_)
    rfl

end Go.Fip
