/- Walks, by program (wip/tools). -/
import Derived.Test.YticpcefbokhgfaaMJ
import Derived.Test.YticpcefbokhgfaaMK
set_option linter.unusedVariables false
set_option linter.unusedSimpArgs false
set_option linter.unusedSectionVars false
set_option linter.unnecessarySimpa false
namespace Go.Fip
open Go.Proofs Go.RowKit

theorem c12 {v : Value} {l : List Int} {o1 : Int} {w : World} (h0 : Rd encI 1 v l w) (hb1 : 0 ≤ o1 ∧ o1 ≤ 255)  :
    Fn Try.prog 12 [v, (.int .u8 o1)].toArray w (fun u _ => u = .bool true) := by
  refine fn_of' (args := [v, (.int .u8 o1)]) Try.func12 rfl (ent Try.func12 (by kernel_rfl) rfl) rfl rfl (fun hH => ?_)
  refine seq (region (ops_y hH rfl rfl (yv_assign rfl) (ops_nil (thn_n (seq (seq ?_))))))
  by_cases hc1 : S.J l
  · skip
    have hj : S.J l := ‹_›
    have hc0 : S.check l 0 = 0 := S.check_iff.2 hj
    have hl1 := hj.1
    have hl10 := hj.2.1
    have hcn' : ∀ a : Int, 1 ≤ a → a ≤ (l.length : Int) → S.checkNone l a = 0 ∨ S.checkNone l a = 14 := S.cn_or hc0
    have hmo := emod_bd (a := o1) (b := (l.length : Int)) (by omega)
    have hpo : S.power l 2 = ((S.pw l 2), 0) := hj.pow (t := 2) (by omega) (by omega)
    have hJd := hj.ofPw 2
    have hld : (S.pw l 2).length = l.length := S.pw_length
    have hsq := S.sq_root hj
    have hrq := S.ro3 (S.check_iff.2 hJd) hsq.1
    obtain ⟨hqa, hqb, hqc⟩ := S.root_of hJd hsq.1
    have hbq : (S.behind (S.rt (S.pw l 2) (S.none1 (S.pw l 2).length)) (S.rt (S.pw l 2) (S.none1 (S.pw l 2).length))).length = l.length := S.behind_length.trans (hqc.trans hld)
    have hqi : ∀ i, i < (S.rt (S.pw l 2) (S.none1 (S.pw l 2).length)).length → 0 ≤ nth (S.rt (S.pw l 2) (S.none1 (S.pw l 2).length)) (i : Int) ∧ nth (S.rt (S.pw l 2) (S.none1 (S.pw l 2).length)) (i : Int) < ((S.rt (S.pw l 2) (S.none1 (S.pw l 2).length)).length : Int) := hqa.2.2.1
    have hlex : ¬ S.lexB l (S.rt (S.pw l 2) (S.none1 (S.pw l 2).length)) = true := fun h => hsq.2 (S.lexB_iff.1 h)
    refine region (ops_y hH rfl rfl (yv_move rfl) ?_)
    refine op_fnV rfl rfl rfl hH (c56 (h0.now hH (n := 0) rfl)) (fun w2 hH3 => ?_)
    refine ops_y hH3 rfl rfl (yv_castB (bnot_f (decide_eq_true hc1)) (yv_not rfl)) ?_
    refine ops_nil (thn_n ?_)
    refine cond_f rfl rfl ?_
    refine skip (thn_n (seq ?_))
    by_cases hc4 : S.noneL l = 0
    · skip
      have hn : S.noneL l = 0 := ‹_›
      have hro := S.ro3 hc0 hn
      have hno := S.no2 hc0 hn
      obtain ⟨hra, hrb, hrc⟩ := S.root_of hj hn
      have hbb : (S.behind (S.rt l (S.none1 l.length)) (S.rt l (S.none1 l.length))).length = l.length := S.behind_length.trans hrc
      have hri : ∀ i, i < (S.rt l (S.none1 l.length)).length → 0 ≤ nth (S.rt l (S.none1 l.length)) (i : Int) ∧ nth (S.rt l (S.none1 l.length)) (i : Int) < ((S.rt l (S.none1 l.length)).length : Int) := hra.2.2.1
      have hcn := S.cn_all hj hn
      refine region (ops_y hH3 rfl rfl (yv_move rfl) ?_)
      refine op_fn rfl rfl rfl hH3 ((by have h := c42 (h0.now hH3 (n := 0) rfl) (by omega); simp only [hro] at h; exact h)) (fun u7 w5 lo8 hi9 hH6 hv10 => ?_)
      obtain ⟨p12, hu, -⟩ := hv10
      subst hu
      have hH11 := Heap.tup2 hH6 (n := 0) rfl
      refine ops_y hH11 rfl rfl (yv_move rfl) (ops_y hH11 rfl rfl (yv_extract rfl rfl) (ops_y hH11 rfl rfl (yv_extract rfl rfl) (ops_y hH11 rfl rfl (yv_assign rfl) (ops_y hH11 rfl rfl (yv_assign rfl) (ops_nil (thn_n (seq (region (ops_y hH11 rfl rfl (yv_move rfl) ?_)))))))))
      refine op_fnV rfl rfl rfl hH11 ((by have h := c44 (h0.now hH11 (n := 1) rfl) (by omega); simp only [hno] at h; exact h)) (fun w13 hH14 => ?_)
      refine ops_y hH14 rfl rfl (yv_move rfl) (ops_y hH14 rfl rfl (yv_extract rfl rfl) (ops_y hH14 rfl rfl (yv_extract rfl rfl) (ops_y hH14 rfl rfl (yv_assign rfl) (ops_y hH14 rfl rfl (yv_assign rfl) (ops_nil (thn_n (seq (region (ops_y hH14 rfl rfl (yv_move rfl) ?_)))))))))
      refine ops_y hH14 rfl rfl (yv_move rfl) ?_
      refine ops_y hH14 rfl rfl (yv_conv Try.underlying5 Try.underlying3 rfl (wrap_i64 (by omega))) ?_
      refine ops_y hH14 rfl rfl (yv_move rfl) ?_
      refine ops_y hH14 rfl rfl (yv_len T.sl22 rfl (h0.now hH14 (n := 1) rfl).is) ?_
      refine ops_y hH14 rfl rfl (yv_rem rfl rfl (by omega) (by omega)) ?_
      refine ops_y hH14 rfl rfl (yv_add rfl rfl (by omega)) ?_
      refine op_fnV rfl rfl rfl hH14 ((by have h := c46 (a := 1 + (o1 % (l.length : Int))) (h0.now hH14 (n := 1) rfl) (by omega); rw [hcn (1 + (o1 % (l.length : Int))) (by omega) (by omega)] at h; exact h)) (fun w15 hH16 => ?_)
      refine ops_y hH16 rfl rfl (yv_assign rfl) (ops_nil (thn_n (seq (seq ?_))))
      by_cases hc17 : S.checkNone l (1 + (o1 % (l.length : Int))) = 0
      · skip
        have hok : S.checkNone l (1 + (o1 % (l.length : Int))) = 0 := ‹_›
        refine region (ops_y hH16 rfl rfl (yv_move rfl) ?_)
        refine ops_y hH16 rfl rfl (yv_castB rfl (yv_neq rfl rfl)) ?_
        refine ops_y hH16 rfl rfl (yv_move rfl) (guard_yes rfl rfl rfl (ops_y hH16 rfl rfl (yv_move rfl) (guard_yes rfl rfl rfl ?_)))
        refine ops_y hH16 rfl rfl (yv_castB rfl (yv_neq rfl rfl)) ?_
        refine ops_y hH16 rfl rfl (yv_pick_t rfl rfl rfl) ?_
        refine ops_nil (thn_n ?_)
        refine cond_f rfl rfl ?_
        refine skip (thn_n (seq (seq (region (ops_y hH16 rfl rfl (yv_move rfl) ?_)))))
        refine ops_y hH16 rfl rfl (yv_castB rfl (yv_eql rfl rfl)) ?_
        refine ops_nil (thn_n ?_)
        refine cond_t rfl rfl ?_
        refine seq (region (ops_y hH16 rfl rfl (yv_move rfl) ?_))
        refine op_fnV rfl rfl rfl hH16 (c56 (Heap.rdw T.el22_encI hH16 (n := 0) rfl)) (fun w18 hH19 => ?_)
        refine ops_y hH19 rfl rfl (yv_not rfl) ?_
        refine ops_y hH19 rfl rfl (yv_move rfl) ?_
        have hc20 : ¬ (¬ (S.J (S.rt l (S.none1 l.length)))) := fun h => h hra
        refine guard_yes rfl rfl (not_decide_f hc20) ?_
        refine ops_y hH19 rfl rfl (yv_move rfl) ?_
        refine guard_yes rfl rfl (not_decide_f hc20) ?_
        refine ops_y hH19 rfl rfl (yv_len T.sl22 rfl (Heap.rdw T.el22_encI hH19 (n := 0) rfl).is) ?_
        refine guard_yes rfl rfl (not_decide_f hc20) ?_
        refine ops_y hH19 rfl rfl (yv_move rfl) ?_
        refine guard_yes rfl rfl (not_decide_f hc20) ?_
        refine ops_y hH19 rfl rfl (yv_len T.sl22 rfl (h0.now hH19 (n := 1) rfl).is) ?_
        refine guard_yes rfl rfl (not_decide_f hc20) ?_
        refine ops_y hH19 rfl rfl (yv_neq rfl rfl) ?_
        refine ops_y hH19 rfl rfl (yv_pick_f rfl (not_decide_f hc20) rfl) ?_
        refine ops_y hH19 rfl rfl (yv_move rfl) ?_
        have hc21 : ¬ (¬ (((S.rt l (S.none1 l.length)).length : Int) = (l.length : Int))) := by omega
        refine guard_yes rfl rfl (not_decide_f hc21) ?_
        refine ops_y hH19 rfl rfl (yv_move rfl) ?_
        refine guard_yes rfl rfl (not_decide_f hc21) ?_
        refine ops_y hH19 rfl rfl (yv_move rfl) ?_
        refine guard_yes rfl rfl (not_decide_f hc21) ?_
        refine op_fn rfl rfl rfl hH19 (c63 (Heap.rdw T.el22_encI hH19 (n := 0) rfl) (Heap.rdw T.el22_encI hH19 (n := 0) rfl) (by omega) hri) (fun u24 w22 lo25 hi26 hH23 hv27 => ?_)
        have hH28 := Heap.toOw hH23 (n := 0) rfl
        refine guard_yes rfl rfl (not_decide_f hc21) ?_
        refine ops_y hH28 rfl rfl (yv_move rfl) ?_
        refine guard_yes rfl rfl (not_decide_f hc21) ?_
        refine op_fnV rfl rfl rfl hH28 (c33 (Heap.rdw T.el22_encI hH28 (n := 0) rfl) (h0.now hH28 (n := 2) rfl) (by omega) (by omega)) (fun w29 hH30 => ?_)
        refine guard_yes rfl rfl (not_decide_f hc21) ?_
        refine ops_y hH30 rfl rfl (yv_not rfl) ?_
        refine ops_y hH30 rfl rfl (yv_pick_f rfl (not_decide_f hc21) rfl) ?_
        refine ops_y hH30 rfl rfl (yv_move rfl) ?_
        have hc31 : ¬ (¬ ((S.behind (S.rt l (S.none1 l.length)) (S.rt l (S.none1 l.length))) = l)) := fun h => h hrb
        refine guard_yes rfl rfl (not_decide_f hc31) ?_
        refine ops_y hH30 rfl rfl (yv_move rfl) ?_
        refine guard_yes rfl rfl (not_decide_f hc31) ?_
        refine ops_y hH30 rfl rfl (yv_castB rfl (yv_neq rfl rfl)) ?_
        refine ops_y hH30 rfl rfl (yv_pick_f rfl (not_decide_f hc31) rfl) ?_
        refine ops_y hH30 rfl rfl (yv_move rfl) (guard_yes rfl rfl rfl (ops_y hH30 rfl rfl (yv_move rfl) (guard_yes rfl rfl rfl ?_)))
        refine ops_y hH30 rfl rfl (yv_castB rfl (yv_neq rfl rfl)) ?_
        refine ops_y hH30 rfl rfl (yv_pick_f rfl rfl rfl) ?_
        refine ops_nil (thn_n ?_)
        refine cond_f rfl rfl ?_
        refine skip (thn_n (seq (region (ops_y hH30 rfl rfl (yv_move rfl) ?_))))
        refine op_fn rfl rfl rfl hH30 ((by have h := c36 (h0.now hH30 (n := 2) rfl) (by omega) (t := 2); simp only [hpo] at h; exact h)) (fun u34 w32 lo35 hi36 hH33 hv37 => ?_)
        obtain ⟨p39, hu, -⟩ := hv37
        subst hu
        have hH38 := Heap.tup2 hH33 (n := 0) rfl
        refine ops_y hH38 rfl rfl (yv_move rfl) (ops_y hH38 rfl rfl (yv_extract rfl rfl) (ops_y hH38 rfl rfl (yv_extract rfl rfl) (ops_y hH38 rfl rfl (yv_assign rfl) (ops_y hH38 rfl rfl (yv_assign rfl) (ops_nil (thn_n (seq (seq (region ?_)))))))))
        refine ops_y hH38 rfl rfl (yv_move rfl) ?_
        refine ops_y hH38 rfl rfl (yv_castB rfl (yv_neq rfl rfl)) ?_
        refine ops_y hH38 rfl rfl (yv_move rfl) (guard_yes rfl rfl rfl (ops_y hH38 rfl rfl (yv_move rfl) (guard_yes rfl rfl rfl ?_)))
        refine op_fnV rfl rfl rfl hH38 (c56 (Heap.rdw T.el22_encI hH38 (n := 0) rfl)) (fun w40 hH41 => ?_)
        refine guard_yes rfl rfl rfl ?_
        refine ops_y hH41 rfl rfl (yv_not rfl) ?_
        refine ops_y hH41 rfl rfl (yv_pick_f rfl rfl rfl) ?_
        refine ops_y hH41 rfl rfl (yv_move rfl) ?_
        have hc42 : ¬ (¬ (S.J (S.pw l 2))) := fun h => h hJd
        refine guard_yes rfl rfl (not_decide_f hc42) ?_
        refine ops_y hH41 rfl rfl (yv_move rfl) ?_
        refine guard_yes rfl rfl (not_decide_f hc42) ?_
        refine ops_y hH41 rfl rfl (yv_len T.sl22 rfl (Heap.rdw T.el22_encI hH41 (n := 0) rfl).is) ?_
        refine guard_yes rfl rfl (not_decide_f hc42) ?_
        refine ops_y hH41 rfl rfl (yv_move rfl) ?_
        refine guard_yes rfl rfl (not_decide_f hc42) ?_
        refine ops_y hH41 rfl rfl (yv_len T.sl22 rfl (h0.now hH41 (n := 3) rfl).is) ?_
        refine guard_yes rfl rfl (not_decide_f hc42) ?_
        refine ops_y hH41 rfl rfl (yv_neq rfl rfl) ?_
        refine ops_y hH41 rfl rfl (yv_pick_f rfl (not_decide_f hc42) rfl) ?_
        refine ops_nil (thn_n ?_)
        have hc43 : ¬ (¬ (((S.pw l 2).length : Int) = (l.length : Int))) := by omega
        refine cond_f rfl (not_decide_f hc43) ?_
        refine skip (thn_n (seq (region (ops_y hH41 rfl rfl (yv_move rfl) ?_))))
        refine op_fn rfl rfl rfl hH41 ((by have h := c42 (Heap.rdw T.el22_encI hH41 (n := 0) rfl) (by omega); simp only [hrq] at h; exact h)) (fun u46 w44 lo47 hi48 hH45 hv49 => ?_)
        obtain ⟨p51, hu, -⟩ := hv49
        subst hu
        have hH50 := Heap.tup2 hH45 (n := 0) rfl
        refine ops_y hH50 rfl rfl (yv_move rfl) (ops_y hH50 rfl rfl (yv_extract rfl rfl) (ops_y hH50 rfl rfl (yv_extract rfl rfl) (ops_y hH50 rfl rfl (yv_assign rfl) (ops_y hH50 rfl rfl (yv_assign rfl) (ops_nil (thn_n (seq (region (ops_y hH50 rfl rfl (yv_move rfl) ?_)))))))))
        refine ops_y hH50 rfl rfl (yv_castB rfl (yv_eql rfl rfl)) ?_
        refine ops_y hH50 rfl rfl (yv_move rfl) (guard_yes rfl rfl rfl (ops_y hH50 rfl rfl (yv_move rfl) (guard_yes rfl rfl rfl ?_)))
        refine ops_y hH50 rfl rfl (yv_len T.sl22 rfl (Heap.rdw T.el22_encI hH50 (n := 0) rfl).is) ?_
        refine guard_yes rfl rfl rfl (ops_y hH50 rfl rfl (yv_move rfl) (guard_yes rfl rfl rfl ?_))
        refine ops_y hH50 rfl rfl (yv_len T.sl22 rfl (h0.now hH50 (n := 4) rfl).is) ?_
        refine guard_yes rfl rfl rfl ?_
        refine ops_y hH50 rfl rfl (yv_eql rfl rfl) ?_
        refine ops_y hH50 rfl rfl (yv_pick_t rfl rfl rfl) ?_
        refine ops_y hH50 rfl rfl (yv_move rfl) ?_
        have hc52 : ((S.rt (S.pw l 2) (S.none1 (S.pw l 2).length)).length : Int) = (l.length : Int) := by omega
        refine guard_yes rfl rfl (decide_eq_true hc52) ?_
        refine ops_y hH50 rfl rfl (yv_move rfl) ?_
        refine guard_yes rfl rfl (decide_eq_true hc52) ?_
        refine op_fnV rfl rfl rfl hH50 (c56 (Heap.rdw T.el22_encI hH50 (n := 0) rfl)) (fun w53 hH54 => ?_)
        refine ops_y hH54 rfl rfl (yv_pick_t rfl (decide_eq_true hc52) rfl) ?_
        refine ops_y hH54 rfl rfl (yv_move rfl) ?_
        have hc55 : S.J (S.rt (S.pw l 2) (S.none1 (S.pw l 2).length)) := hqa
        refine guard_yes rfl rfl (decide_eq_true hc55) ?_
        refine ops_y hH54 rfl rfl (yv_move rfl) ?_
        refine guard_yes rfl rfl (decide_eq_true hc55) ?_
        refine ops_y hH54 rfl rfl (yv_move rfl) ?_
        refine guard_yes rfl rfl (decide_eq_true hc55) ?_
        refine op_fn rfl rfl rfl hH54 (c63 (Heap.rdw T.el22_encI hH54 (n := 0) rfl) (Heap.rdw T.el22_encI hH54 (n := 0) rfl) (by omega) hqi) (fun u58 w56 lo59 hi60 hH57 hv61 => ?_)
        have hH62 := Heap.toOw hH57 (n := 0) rfl
        refine guard_yes rfl rfl (decide_eq_true hc55) ?_
        refine ops_y hH62 rfl rfl (yv_move rfl) ?_
        refine guard_yes rfl rfl (decide_eq_true hc55) ?_
        refine op_fnV rfl rfl rfl hH62 (c33 (Heap.rdw T.el22_encI hH62 (n := 0) rfl) (Heap.rdw T.el22_encI hH62 (n := 2) rfl) (by omega) (by omega)) (fun w63 hH64 => ?_)
        refine ops_y hH64 rfl rfl (yv_pick_t rfl (decide_eq_true hc55) rfl) ?_
        refine ops_y hH64 rfl rfl (yv_move rfl) ?_
        have hc65 : (S.behind (S.rt (S.pw l 2) (S.none1 (S.pw l 2).length)) (S.rt (S.pw l 2) (S.none1 (S.pw l 2).length))) = (S.pw l 2) := hqb
        refine guard_yes rfl rfl (decide_eq_true hc65) ?_
        refine ops_y hH64 rfl rfl (yv_move rfl) ?_
        refine guard_yes rfl rfl (decide_eq_true hc65) ?_
        refine ops_y hH64 rfl rfl (yv_move rfl) ?_
        refine guard_yes rfl rfl (decide_eq_true hc65) ?_
        refine op_fnV rfl rfl rfl hH64 (c64 (h0.now hH64 (n := 5) rfl) (Heap.rdw T.el22_encI hH64 (n := 1) rfl) (by omega) (by omega)) (fun w66 hH67 => ?_)
        refine guard_yes rfl rfl (decide_eq_true hc65) ?_
        refine ops_y hH67 rfl rfl (yv_not rfl) ?_
        refine ops_y hH67 rfl rfl (yv_pick_t rfl (decide_eq_true hc65) rfl) ?_
        refine ops_y hH67 rfl rfl (yv_move rfl) ?_
        have hc68 : (!(S.lexB l (S.rt (S.pw l 2) (S.none1 (S.pw l 2).length)))) = true := by simp [hlex]
        refine guard_yes rfl rfl hc68 ?_
        refine op_fnV rfl rfl rfl hH67 (c18) (fun w69 hH70 => ?_)
        refine ops_y hH70 rfl rfl (yv_pick_t rfl hc68 rfl) ?_
        refine ops_y hH70 rfl rfl (yv_assign rfl) (ops_nil (thn_n (ret ?_)))
        have hH71 := (hH70.sub (List.Sublist.cons _ (List.Sublist.cons _ (List.Sublist.cons _ (List.Sublist.cons _ (List.Sublist.cons _ (List.Sublist.refl _)))))))
        refine fin hH71 (fun w' hf => (res1 rfl (show RV _ _ _ (.tmp 4) _ from rfl))) (fun w' hf => ?_)
        rfl
      · skip
        have hnk : ¬ S.checkNone l (1 + (o1 % (l.length : Int))) = 0 := ‹_›
        have hko := hcn' (1 + (o1 % (l.length : Int))) (by omega) (by omega)
        refine region (ops_y hH16 rfl rfl (yv_move rfl) ?_)
        refine ops_y hH16 rfl rfl (yv_castB rfl (yv_neq rfl rfl)) ?_
        refine ops_y hH16 rfl rfl (yv_move rfl) (guard_yes rfl rfl rfl (ops_y hH16 rfl rfl (yv_move rfl) (guard_yes rfl rfl rfl ?_)))
        refine ops_y hH16 rfl rfl (yv_castB rfl (yv_neq rfl rfl)) ?_
        refine ops_y hH16 rfl rfl (yv_pick_t rfl rfl rfl) ?_
        refine ops_nil (thn_n ?_)
        refine cond_f rfl rfl ?_
        refine skip (thn_n (seq (seq (region (ops_y hH16 rfl rfl (yv_move rfl) ?_)))))
        refine ops_y hH16 rfl rfl (yv_castB rfl (yv_eql rfl rfl)) ?_
        refine ops_nil (thn_n ?_)
        refine cond_t rfl rfl ?_
        refine seq (region (ops_y hH16 rfl rfl (yv_move rfl) ?_))
        refine op_fnV rfl rfl rfl hH16 (c56 (Heap.rdw T.el22_encI hH16 (n := 0) rfl)) (fun w72 hH73 => ?_)
        refine ops_y hH73 rfl rfl (yv_not rfl) ?_
        refine ops_y hH73 rfl rfl (yv_move rfl) ?_
        have hc74 : ¬ (¬ (S.J (S.rt l (S.none1 l.length)))) := fun h => h hra
        refine guard_yes rfl rfl (not_decide_f hc74) ?_
        refine ops_y hH73 rfl rfl (yv_move rfl) ?_
        refine guard_yes rfl rfl (not_decide_f hc74) ?_
        refine ops_y hH73 rfl rfl (yv_len T.sl22 rfl (Heap.rdw T.el22_encI hH73 (n := 0) rfl).is) ?_
        refine guard_yes rfl rfl (not_decide_f hc74) ?_
        refine ops_y hH73 rfl rfl (yv_move rfl) ?_
        refine guard_yes rfl rfl (not_decide_f hc74) ?_
        refine ops_y hH73 rfl rfl (yv_len T.sl22 rfl (h0.now hH73 (n := 1) rfl).is) ?_
        refine guard_yes rfl rfl (not_decide_f hc74) ?_
        refine ops_y hH73 rfl rfl (yv_neq rfl rfl) ?_
        refine ops_y hH73 rfl rfl (yv_pick_f rfl (not_decide_f hc74) rfl) ?_
        refine ops_y hH73 rfl rfl (yv_move rfl) ?_
        have hc75 : ¬ (¬ (((S.rt l (S.none1 l.length)).length : Int) = (l.length : Int))) := by omega
        refine guard_yes rfl rfl (not_decide_f hc75) ?_
        refine ops_y hH73 rfl rfl (yv_move rfl) ?_
        refine guard_yes rfl rfl (not_decide_f hc75) ?_
        refine ops_y hH73 rfl rfl (yv_move rfl) ?_
        refine guard_yes rfl rfl (not_decide_f hc75) ?_
        refine op_fn rfl rfl rfl hH73 (c63 (Heap.rdw T.el22_encI hH73 (n := 0) rfl) (Heap.rdw T.el22_encI hH73 (n := 0) rfl) (by omega) hri) (fun u78 w76 lo79 hi80 hH77 hv81 => ?_)
        have hH82 := Heap.toOw hH77 (n := 0) rfl
        refine guard_yes rfl rfl (not_decide_f hc75) ?_
        refine ops_y hH82 rfl rfl (yv_move rfl) ?_
        refine guard_yes rfl rfl (not_decide_f hc75) ?_
        refine op_fnV rfl rfl rfl hH82 (c33 (Heap.rdw T.el22_encI hH82 (n := 0) rfl) (h0.now hH82 (n := 2) rfl) (by omega) (by omega)) (fun w83 hH84 => ?_)
        refine guard_yes rfl rfl (not_decide_f hc75) ?_
        refine ops_y hH84 rfl rfl (yv_not rfl) ?_
        refine ops_y hH84 rfl rfl (yv_pick_f rfl (not_decide_f hc75) rfl) ?_
        refine ops_y hH84 rfl rfl (yv_move rfl) ?_
        have hc85 : ¬ (¬ ((S.behind (S.rt l (S.none1 l.length)) (S.rt l (S.none1 l.length))) = l)) := fun h => h hrb
        refine guard_yes rfl rfl (not_decide_f hc85) ?_
        refine ops_y hH84 rfl rfl (yv_move rfl) ?_
        refine guard_yes rfl rfl (not_decide_f hc85) ?_
        refine ops_y hH84 rfl rfl (yv_castB rfl (yv_neq rfl rfl)) ?_
        refine ops_y hH84 rfl rfl (yv_pick_f rfl (not_decide_f hc85) rfl) ?_
        refine ops_y hH84 rfl rfl (yv_move rfl) (guard_yes rfl rfl rfl (ops_y hH84 rfl rfl (yv_move rfl) (guard_yes rfl rfl rfl ?_)))
        refine ops_y hH84 rfl rfl (yv_castB rfl (yv_neq rfl rfl)) ?_
        refine ops_y hH84 rfl rfl (yv_pick_f rfl rfl rfl) ?_
        refine ops_nil (thn_n ?_)
        refine cond_f rfl rfl ?_
        refine skip (thn_n (seq (region (ops_y hH84 rfl rfl (yv_move rfl) ?_))))
        refine op_fn rfl rfl rfl hH84 ((by have h := c36 (h0.now hH84 (n := 2) rfl) (by omega) (t := 2); simp only [hpo] at h; exact h)) (fun u88 w86 lo89 hi90 hH87 hv91 => ?_)
        obtain ⟨p93, hu, -⟩ := hv91
        subst hu
        have hH92 := Heap.tup2 hH87 (n := 0) rfl
        refine ops_y hH92 rfl rfl (yv_move rfl) (ops_y hH92 rfl rfl (yv_extract rfl rfl) (ops_y hH92 rfl rfl (yv_extract rfl rfl) (ops_y hH92 rfl rfl (yv_assign rfl) (ops_y hH92 rfl rfl (yv_assign rfl) (ops_nil (thn_n (seq (seq (region ?_)))))))))
        refine ops_y hH92 rfl rfl (yv_move rfl) ?_
        refine ops_y hH92 rfl rfl (yv_castB rfl (yv_neq rfl rfl)) ?_
        refine ops_y hH92 rfl rfl (yv_move rfl) (guard_yes rfl rfl rfl (ops_y hH92 rfl rfl (yv_move rfl) (guard_yes rfl rfl rfl ?_)))
        refine op_fnV rfl rfl rfl hH92 (c56 (Heap.rdw T.el22_encI hH92 (n := 0) rfl)) (fun w94 hH95 => ?_)
        refine guard_yes rfl rfl rfl ?_
        refine ops_y hH95 rfl rfl (yv_not rfl) ?_
        refine ops_y hH95 rfl rfl (yv_pick_f rfl rfl rfl) ?_
        refine ops_y hH95 rfl rfl (yv_move rfl) ?_
        have hc96 : ¬ (¬ (S.J (S.pw l 2))) := fun h => h hJd
        refine guard_yes rfl rfl (not_decide_f hc96) ?_
        refine ops_y hH95 rfl rfl (yv_move rfl) ?_
        refine guard_yes rfl rfl (not_decide_f hc96) ?_
        refine ops_y hH95 rfl rfl (yv_len T.sl22 rfl (Heap.rdw T.el22_encI hH95 (n := 0) rfl).is) ?_
        refine guard_yes rfl rfl (not_decide_f hc96) ?_
        refine ops_y hH95 rfl rfl (yv_move rfl) ?_
        refine guard_yes rfl rfl (not_decide_f hc96) ?_
        refine ops_y hH95 rfl rfl (yv_len T.sl22 rfl (h0.now hH95 (n := 3) rfl).is) ?_
        refine guard_yes rfl rfl (not_decide_f hc96) ?_
        refine ops_y hH95 rfl rfl (yv_neq rfl rfl) ?_
        refine ops_y hH95 rfl rfl (yv_pick_f rfl (not_decide_f hc96) rfl) ?_
        refine ops_nil (thn_n ?_)
        have hc97 : ¬ (¬ (((S.pw l 2).length : Int) = (l.length : Int))) := by omega
        refine cond_f rfl (not_decide_f hc97) ?_
        refine skip (thn_n (seq (region (ops_y hH95 rfl rfl (yv_move rfl) ?_))))
        refine op_fn rfl rfl rfl hH95 ((by have h := c42 (Heap.rdw T.el22_encI hH95 (n := 0) rfl) (by omega); simp only [hrq] at h; exact h)) (fun u100 w98 lo101 hi102 hH99 hv103 => ?_)
        obtain ⟨p105, hu, -⟩ := hv103
        subst hu
        have hH104 := Heap.tup2 hH99 (n := 0) rfl
        refine ops_y hH104 rfl rfl (yv_move rfl) (ops_y hH104 rfl rfl (yv_extract rfl rfl) (ops_y hH104 rfl rfl (yv_extract rfl rfl) (ops_y hH104 rfl rfl (yv_assign rfl) (ops_y hH104 rfl rfl (yv_assign rfl) (ops_nil (thn_n (seq (region (ops_y hH104 rfl rfl (yv_move rfl) ?_)))))))))
        refine ops_y hH104 rfl rfl (yv_castB rfl (yv_eql rfl rfl)) ?_
        refine ops_y hH104 rfl rfl (yv_move rfl) (guard_yes rfl rfl rfl (ops_y hH104 rfl rfl (yv_move rfl) (guard_yes rfl rfl rfl ?_)))
        refine ops_y hH104 rfl rfl (yv_len T.sl22 rfl (Heap.rdw T.el22_encI hH104 (n := 0) rfl).is) ?_
        refine guard_yes rfl rfl rfl (ops_y hH104 rfl rfl (yv_move rfl) (guard_yes rfl rfl rfl ?_))
        refine ops_y hH104 rfl rfl (yv_len T.sl22 rfl (h0.now hH104 (n := 4) rfl).is) ?_
        refine guard_yes rfl rfl rfl ?_
        refine ops_y hH104 rfl rfl (yv_eql rfl rfl) ?_
        refine ops_y hH104 rfl rfl (yv_pick_t rfl rfl rfl) ?_
        refine ops_y hH104 rfl rfl (yv_move rfl) ?_
        have hc106 : ((S.rt (S.pw l 2) (S.none1 (S.pw l 2).length)).length : Int) = (l.length : Int) := by omega
        refine guard_yes rfl rfl (decide_eq_true hc106) ?_
        refine ops_y hH104 rfl rfl (yv_move rfl) ?_
        refine guard_yes rfl rfl (decide_eq_true hc106) ?_
        refine op_fnV rfl rfl rfl hH104 (c56 (Heap.rdw T.el22_encI hH104 (n := 0) rfl)) (fun w107 hH108 => ?_)
        refine ops_y hH108 rfl rfl (yv_pick_t rfl (decide_eq_true hc106) rfl) ?_
        refine ops_y hH108 rfl rfl (yv_move rfl) ?_
        have hc109 : S.J (S.rt (S.pw l 2) (S.none1 (S.pw l 2).length)) := hqa
        refine guard_yes rfl rfl (decide_eq_true hc109) ?_
        refine ops_y hH108 rfl rfl (yv_move rfl) ?_
        refine guard_yes rfl rfl (decide_eq_true hc109) ?_
        refine ops_y hH108 rfl rfl (yv_move rfl) ?_
        refine guard_yes rfl rfl (decide_eq_true hc109) ?_
        refine op_fn rfl rfl rfl hH108 (c63 (Heap.rdw T.el22_encI hH108 (n := 0) rfl) (Heap.rdw T.el22_encI hH108 (n := 0) rfl) (by omega) hqi) (fun u112 w110 lo113 hi114 hH111 hv115 => ?_)
        have hH116 := Heap.toOw hH111 (n := 0) rfl
        refine guard_yes rfl rfl (decide_eq_true hc109) ?_
        refine ops_y hH116 rfl rfl (yv_move rfl) ?_
        refine guard_yes rfl rfl (decide_eq_true hc109) ?_
        refine op_fnV rfl rfl rfl hH116 (c33 (Heap.rdw T.el22_encI hH116 (n := 0) rfl) (Heap.rdw T.el22_encI hH116 (n := 2) rfl) (by omega) (by omega)) (fun w117 hH118 => ?_)
        refine ops_y hH118 rfl rfl (yv_pick_t rfl (decide_eq_true hc109) rfl) ?_
        refine ops_y hH118 rfl rfl (yv_move rfl) ?_
        have hc119 : (S.behind (S.rt (S.pw l 2) (S.none1 (S.pw l 2).length)) (S.rt (S.pw l 2) (S.none1 (S.pw l 2).length))) = (S.pw l 2) := hqb
        refine guard_yes rfl rfl (decide_eq_true hc119) ?_
        refine ops_y hH118 rfl rfl (yv_move rfl) ?_
        refine guard_yes rfl rfl (decide_eq_true hc119) ?_
        refine ops_y hH118 rfl rfl (yv_move rfl) ?_
        refine guard_yes rfl rfl (decide_eq_true hc119) ?_
        refine op_fnV rfl rfl rfl hH118 (c64 (h0.now hH118 (n := 5) rfl) (Heap.rdw T.el22_encI hH118 (n := 1) rfl) (by omega) (by omega)) (fun w120 hH121 => ?_)
        refine guard_yes rfl rfl (decide_eq_true hc119) ?_
        refine ops_y hH121 rfl rfl (yv_not rfl) ?_
        refine ops_y hH121 rfl rfl (yv_pick_t rfl (decide_eq_true hc119) rfl) ?_
        refine ops_y hH121 rfl rfl (yv_move rfl) ?_
        have hc122 : (!(S.lexB l (S.rt (S.pw l 2) (S.none1 (S.pw l 2).length)))) = true := by simp [hlex]
        refine guard_yes rfl rfl hc122 ?_
        refine op_fnV rfl rfl rfl hH121 (c18) (fun w123 hH124 => ?_)
        refine ops_y hH124 rfl rfl (yv_pick_t rfl hc122 rfl) ?_
        refine ops_y hH124 rfl rfl (yv_assign rfl) (ops_nil (thn_n (ret ?_)))
        have hH125 := (hH124.sub (List.Sublist.cons _ (List.Sublist.cons _ (List.Sublist.cons _ (List.Sublist.cons _ (List.Sublist.cons _ (List.Sublist.refl _)))))))
        refine fin hH125 (fun w' hf => (res1 rfl (show RV _ _ _ (.tmp 4) _ from rfl))) (fun w' hf => ?_)
        rfl
    · skip
      have hnn : ¬ S.noneL l = 0 := ‹_›
      have hro := S.ro2 hc0 hnn
      have hno := S.no3 hc0 hnn
      have hnv := S.noneL_val hnn
      have hnp := S.noneP_pos hnv
      have hnl := hj.noneP_le hnv
      have hcnv := (S.cn_iff hc0 (by omega) hnl).2 hnv
      refine region (ops_y hH3 rfl rfl (yv_move rfl) ?_)
      refine op_fn rfl rfl rfl hH3 ((by have h := c42 (h0.now hH3 (n := 0) rfl) (by omega); simp only [hro] at h; exact h)) (fun u128 w126 lo129 hi130 hH127 hv131 => ?_)
      obtain ⟨p133, hu, -⟩ := hv131
      subst hu
      have hH132 := Heap.tup2 hH127 (n := 0) rfl
      refine ops_y hH132 rfl rfl (yv_move rfl) (ops_y hH132 rfl rfl (yv_extract rfl rfl) (ops_y hH132 rfl rfl (yv_extract rfl rfl) (ops_y hH132 rfl rfl (yv_assign rfl) (ops_y hH132 rfl rfl (yv_assign rfl) (ops_nil (thn_n (seq (region (ops_y hH132 rfl rfl (yv_move rfl) ?_)))))))))
      refine op_fnV rfl rfl rfl hH132 ((by have h := c44 (h0.now hH132 (n := 1) rfl) (by omega); simp only [hno] at h; exact h)) (fun w134 hH135 => ?_)
      refine ops_y hH135 rfl rfl (yv_move rfl) (ops_y hH135 rfl rfl (yv_extract rfl rfl) (ops_y hH135 rfl rfl (yv_extract rfl rfl) (ops_y hH135 rfl rfl (yv_assign rfl) (ops_y hH135 rfl rfl (yv_assign rfl) (ops_nil (thn_n (seq (region (ops_y hH135 rfl rfl (yv_move rfl) ?_)))))))))
      refine ops_y hH135 rfl rfl (yv_move rfl) ?_
      refine ops_y hH135 rfl rfl (yv_conv Try.underlying5 Try.underlying3 rfl (wrap_i64 (by omega))) ?_
      refine ops_y hH135 rfl rfl (yv_move rfl) ?_
      refine ops_y hH135 rfl rfl (yv_len T.sl22 rfl (h0.now hH135 (n := 1) rfl).is) ?_
      refine ops_y hH135 rfl rfl (yv_rem rfl rfl (by omega) (by omega)) ?_
      refine ops_y hH135 rfl rfl (yv_add rfl rfl (by omega)) ?_
      refine op_fnV rfl rfl rfl hH135 ((c46 (a := 1 + (o1 % (l.length : Int))) (h0.now hH135 (n := 1) rfl) (by omega))) (fun w136 hH137 => ?_)
      refine ops_y hH137 rfl rfl (yv_assign rfl) (ops_nil (thn_n (seq (seq ?_))))
      by_cases hc138 : S.checkNone l (1 + (o1 % (l.length : Int))) = 0
      · skip
        have hok : S.checkNone l (1 + (o1 % (l.length : Int))) = 0 := ‹_›
        refine region (ops_y hH137 rfl rfl (yv_move rfl) ?_)
        refine ops_y hH137 rfl rfl (yv_neq rfl rfl) ?_
        refine ops_y hH137 rfl rfl (yv_move rfl) ?_
        have hc139 : ¬ (¬ ((S.checkNone l (1 + (o1 % (l.length : Int)))) = 0)) := by omega
        refine guard_no rfl rfl (not_decide_f hc139) rfl ?_
        refine guard_no rfl rfl (not_decide_f hc139) rfl ?_
        refine ops_y hH137 rfl rfl (yv_pick_f rfl (not_decide_f hc139) rfl) ?_
        refine ops_nil (thn_n ?_)
        refine cond_f rfl rfl ?_
        refine skip (thn_n (seq (seq (region (ops_y hH137 rfl rfl (yv_move rfl) ?_)))))
        refine ops_y hH137 rfl rfl (yv_castB rfl (yv_eql rfl rfl)) ?_
        refine ops_nil (thn_n ?_)
        refine cond_f rfl rfl ?_
        refine seq (region (ops_y hH137 rfl rfl (yv_move rfl) ?_))
        refine ops_y hH137 rfl rfl (yv_castB rfl (yv_neq rfl rfl)) ?_
        refine ops_y hH137 rfl rfl (yv_move rfl) (guard_yes rfl rfl rfl (ops_y hH137 rfl rfl (yv_move rfl) (guard_yes rfl rfl rfl ?_)))
        refine ops_y hH137 rfl rfl (yv_len T.sl22 rfl (Heap.rdw T.el22_encI hH137 (n := 0) rfl).is) ?_
        refine guard_yes rfl rfl rfl ?_
        refine ops_y hH137 rfl rfl (yv_gtr rfl rfl) ?_
        refine ops_y hH137 rfl rfl (yv_pick_f rfl rfl rfl) ?_
        refine ops_y hH137 rfl rfl (yv_move rfl) ?_
        have hc140 : ¬ (0 < (([] : List Int).length : Int)) := by simp
        refine guard_yes rfl rfl (decide_eq_false hc140) ?_
        refine ops_y hH137 rfl rfl (yv_move rfl) ?_
        refine guard_yes rfl rfl (decide_eq_false hc140) ?_
        refine ops_y hH137 rfl rfl (yv_castB rfl (yv_neq rfl rfl)) ?_
        refine ops_y hH137 rfl rfl (yv_pick_f rfl (decide_eq_false hc140) rfl) ?_
        refine ops_y hH137 rfl rfl (yv_move rfl) (guard_yes rfl rfl rfl (ops_y hH137 rfl rfl (yv_move rfl) (guard_yes rfl rfl rfl (ops_y hH137 rfl rfl (yv_move rfl) (guard_yes rfl rfl rfl ?_)))))
        refine op_fnV rfl rfl rfl hH137 (c46 (h0.now hH137 (n := 1) rfl) (by omega)) (fun w141 hH142 => ?_)
        refine guard_yes rfl rfl rfl ?_
        refine ops_y hH142 rfl rfl (yv_neq rfl rfl) ?_
        refine ops_y hH142 rfl rfl (yv_pick_f rfl rfl rfl) ?_
        refine ops_y hH142 rfl rfl (yv_move rfl) ?_
        have hc143 : ¬ (¬ ((S.checkNone l (S.noneL l : Int)) = 0)) := by omega
        refine guard_yes rfl rfl (not_decide_f hc143) ?_
        refine ops_y hH142 rfl rfl (yv_move rfl) ?_
        refine guard_yes rfl rfl (not_decide_f hc143) ?_
        refine ops_y hH142 rfl rfl (yv_move rfl) ?_
        refine guard_yes rfl rfl (not_decide_f hc143) ?_
        refine op_fnV rfl rfl rfl hH142 (c47 (h0.now hH142 (n := 1) rfl) (by omega)) (fun w144 hH145 => ?_)
        refine guard_yes rfl rfl (not_decide_f hc143) ?_
        refine ops_y hH145 rfl rfl (yv_castB (not_decide_f hc143) (yv_neq rfl rfl)) ?_
        refine ops_y hH145 rfl rfl (yv_pick_f rfl (not_decide_f hc143) rfl) ?_
        refine ops_nil (thn_n ?_)
        refine cond_f rfl rfl ?_
        refine skip (thn_n (seq (region (ops_y hH145 rfl rfl (yv_move rfl) ?_))))
        refine op_fn rfl rfl rfl hH145 ((by have h := c36 (h0.now hH145 (n := 1) rfl) (by omega) (t := 2); simp only [hpo] at h; exact h)) (fun u148 w146 lo149 hi150 hH147 hv151 => ?_)
        obtain ⟨p153, hu, -⟩ := hv151
        subst hu
        have hH152 := Heap.tup2 hH147 (n := 0) rfl
        refine ops_y hH152 rfl rfl (yv_move rfl) (ops_y hH152 rfl rfl (yv_extract rfl rfl) (ops_y hH152 rfl rfl (yv_extract rfl rfl) (ops_y hH152 rfl rfl (yv_assign rfl) (ops_y hH152 rfl rfl (yv_assign rfl) (ops_nil (thn_n (seq (seq (region ?_)))))))))
        refine ops_y hH152 rfl rfl (yv_move rfl) ?_
        refine ops_y hH152 rfl rfl (yv_castB rfl (yv_neq rfl rfl)) ?_
        refine ops_y hH152 rfl rfl (yv_move rfl) (guard_yes rfl rfl rfl (ops_y hH152 rfl rfl (yv_move rfl) (guard_yes rfl rfl rfl ?_)))
        refine op_fnV rfl rfl rfl hH152 (c56 (Heap.rdw T.el22_encI hH152 (n := 0) rfl)) (fun w154 hH155 => ?_)
        refine guard_yes rfl rfl rfl ?_
        refine ops_y hH155 rfl rfl (yv_not rfl) ?_
        refine ops_y hH155 rfl rfl (yv_pick_f rfl rfl rfl) ?_
        refine ops_y hH155 rfl rfl (yv_move rfl) ?_
        have hc156 : ¬ (¬ (S.J (S.pw l 2))) := fun h => h hJd
        refine guard_yes rfl rfl (not_decide_f hc156) ?_
        refine ops_y hH155 rfl rfl (yv_move rfl) ?_
        refine guard_yes rfl rfl (not_decide_f hc156) ?_
        refine ops_y hH155 rfl rfl (yv_len T.sl22 rfl (Heap.rdw T.el22_encI hH155 (n := 0) rfl).is) ?_
        refine guard_yes rfl rfl (not_decide_f hc156) ?_
        refine ops_y hH155 rfl rfl (yv_move rfl) ?_
        refine guard_yes rfl rfl (not_decide_f hc156) ?_
        refine ops_y hH155 rfl rfl (yv_len T.sl22 rfl (h0.now hH155 (n := 2) rfl).is) ?_
        refine guard_yes rfl rfl (not_decide_f hc156) ?_
        refine ops_y hH155 rfl rfl (yv_neq rfl rfl) ?_
        refine ops_y hH155 rfl rfl (yv_pick_f rfl (not_decide_f hc156) rfl) ?_
        refine ops_nil (thn_n ?_)
        have hc157 : ¬ (¬ (((S.pw l 2).length : Int) = (l.length : Int))) := by omega
        refine cond_f rfl (not_decide_f hc157) ?_
        refine skip (thn_n (seq (region (ops_y hH155 rfl rfl (yv_move rfl) ?_))))
        refine op_fn rfl rfl rfl hH155 ((by have h := c42 (Heap.rdw T.el22_encI hH155 (n := 0) rfl) (by omega); simp only [hrq] at h; exact h)) (fun u160 w158 lo161 hi162 hH159 hv163 => ?_)
        obtain ⟨p165, hu, -⟩ := hv163
        subst hu
        have hH164 := Heap.tup2 hH159 (n := 0) rfl
        refine ops_y hH164 rfl rfl (yv_move rfl) (ops_y hH164 rfl rfl (yv_extract rfl rfl) (ops_y hH164 rfl rfl (yv_extract rfl rfl) (ops_y hH164 rfl rfl (yv_assign rfl) (ops_y hH164 rfl rfl (yv_assign rfl) (ops_nil (thn_n (seq (region (ops_y hH164 rfl rfl (yv_move rfl) ?_)))))))))
        refine ops_y hH164 rfl rfl (yv_castB rfl (yv_eql rfl rfl)) ?_
        refine ops_y hH164 rfl rfl (yv_move rfl) (guard_yes rfl rfl rfl (ops_y hH164 rfl rfl (yv_move rfl) (guard_yes rfl rfl rfl ?_)))
        refine ops_y hH164 rfl rfl (yv_len T.sl22 rfl (Heap.rdw T.el22_encI hH164 (n := 0) rfl).is) ?_
        refine guard_yes rfl rfl rfl (ops_y hH164 rfl rfl (yv_move rfl) (guard_yes rfl rfl rfl ?_))
        refine ops_y hH164 rfl rfl (yv_len T.sl22 rfl (h0.now hH164 (n := 3) rfl).is) ?_
        refine guard_yes rfl rfl rfl ?_
        refine ops_y hH164 rfl rfl (yv_eql rfl rfl) ?_
        refine ops_y hH164 rfl rfl (yv_pick_t rfl rfl rfl) ?_
        refine ops_y hH164 rfl rfl (yv_move rfl) ?_
        have hc166 : ((S.rt (S.pw l 2) (S.none1 (S.pw l 2).length)).length : Int) = (l.length : Int) := by omega
        refine guard_yes rfl rfl (decide_eq_true hc166) ?_
        refine ops_y hH164 rfl rfl (yv_move rfl) ?_
        refine guard_yes rfl rfl (decide_eq_true hc166) ?_
        refine op_fnV rfl rfl rfl hH164 (c56 (Heap.rdw T.el22_encI hH164 (n := 0) rfl)) (fun w167 hH168 => ?_)
        refine ops_y hH168 rfl rfl (yv_pick_t rfl (decide_eq_true hc166) rfl) ?_
        refine ops_y hH168 rfl rfl (yv_move rfl) ?_
        have hc169 : S.J (S.rt (S.pw l 2) (S.none1 (S.pw l 2).length)) := hqa
        refine guard_yes rfl rfl (decide_eq_true hc169) ?_
        refine ops_y hH168 rfl rfl (yv_move rfl) ?_
        refine guard_yes rfl rfl (decide_eq_true hc169) ?_
        refine ops_y hH168 rfl rfl (yv_move rfl) ?_
        refine guard_yes rfl rfl (decide_eq_true hc169) ?_
        refine op_fn rfl rfl rfl hH168 (c63 (Heap.rdw T.el22_encI hH168 (n := 0) rfl) (Heap.rdw T.el22_encI hH168 (n := 0) rfl) (by omega) hqi) (fun u172 w170 lo173 hi174 hH171 hv175 => ?_)
        have hH176 := Heap.toOw hH171 (n := 0) rfl
        refine guard_yes rfl rfl (decide_eq_true hc169) ?_
        refine ops_y hH176 rfl rfl (yv_move rfl) ?_
        refine guard_yes rfl rfl (decide_eq_true hc169) ?_
        refine op_fnV rfl rfl rfl hH176 (c33 (Heap.rdw T.el22_encI hH176 (n := 0) rfl) (Heap.rdw T.el22_encI hH176 (n := 2) rfl) (by omega) (by omega)) (fun w177 hH178 => ?_)
        refine ops_y hH178 rfl rfl (yv_pick_t rfl (decide_eq_true hc169) rfl) ?_
        refine ops_y hH178 rfl rfl (yv_move rfl) ?_
        have hc179 : (S.behind (S.rt (S.pw l 2) (S.none1 (S.pw l 2).length)) (S.rt (S.pw l 2) (S.none1 (S.pw l 2).length))) = (S.pw l 2) := hqb
        refine guard_yes rfl rfl (decide_eq_true hc179) ?_
        refine ops_y hH178 rfl rfl (yv_move rfl) ?_
        refine guard_yes rfl rfl (decide_eq_true hc179) ?_
        refine ops_y hH178 rfl rfl (yv_move rfl) ?_
        refine guard_yes rfl rfl (decide_eq_true hc179) ?_
        refine op_fnV rfl rfl rfl hH178 (c64 (h0.now hH178 (n := 4) rfl) (Heap.rdw T.el22_encI hH178 (n := 1) rfl) (by omega) (by omega)) (fun w180 hH181 => ?_)
        refine guard_yes rfl rfl (decide_eq_true hc179) ?_
        refine ops_y hH181 rfl rfl (yv_not rfl) ?_
        refine ops_y hH181 rfl rfl (yv_pick_t rfl (decide_eq_true hc179) rfl) ?_
        refine ops_y hH181 rfl rfl (yv_move rfl) ?_
        have hc182 : (!(S.lexB l (S.rt (S.pw l 2) (S.none1 (S.pw l 2).length)))) = true := by simp [hlex]
        refine guard_yes rfl rfl hc182 ?_
        refine op_fnV rfl rfl rfl hH181 (c18) (fun w183 hH184 => ?_)
        refine ops_y hH184 rfl rfl (yv_pick_t rfl hc182 rfl) ?_
        refine ops_y hH184 rfl rfl (yv_assign rfl) (ops_nil (thn_n (ret ?_)))
        have hH185 := (hH184.sub (List.Sublist.cons _ (List.Sublist.cons _ (List.Sublist.cons _ (List.Sublist.cons _ (List.Sublist.refl _))))))
        refine fin hH185 (fun w' hf => (res1 rfl (show RV _ _ _ (.tmp 4) _ from rfl))) (fun w' hf => ?_)
        rfl
      · skip
        have hnk : ¬ S.checkNone l (1 + (o1 % (l.length : Int))) = 0 := ‹_›
        have hko := hcn' (1 + (o1 % (l.length : Int))) (by omega) (by omega)
        refine region (ops_y hH137 rfl rfl (yv_move rfl) ?_)
        refine ops_y hH137 rfl rfl (yv_neq rfl rfl) ?_
        refine ops_y hH137 rfl rfl (yv_move rfl) ?_
        have hc186 : ¬ ((S.checkNone l (1 + (o1 % (l.length : Int)))) = 0) := by omega
        refine guard_yes rfl rfl (not_decide_t hc186) ?_
        refine ops_y hH137 rfl rfl (yv_move rfl) ?_
        refine guard_yes rfl rfl (not_decide_t hc186) ?_
        refine ops_y hH137 rfl rfl (yv_neq rfl rfl) ?_
        refine ops_y hH137 rfl rfl (yv_pick_t rfl (not_decide_t hc186) rfl) ?_
        refine ops_nil (thn_n ?_)
        have hc187 : ¬ (¬ ((S.checkNone l (1 + (o1 % (l.length : Int)))) = 14)) := by omega
        refine cond_f rfl (not_decide_f hc187) ?_
        refine skip (thn_n (seq (seq (region (ops_y hH137 rfl rfl (yv_move rfl) ?_)))))
        refine ops_y hH137 rfl rfl (yv_castB rfl (yv_eql rfl rfl)) ?_
        refine ops_nil (thn_n ?_)
        refine cond_f rfl rfl ?_
        refine seq (region (ops_y hH137 rfl rfl (yv_move rfl) ?_))
        refine ops_y hH137 rfl rfl (yv_castB rfl (yv_neq rfl rfl)) ?_
        refine ops_y hH137 rfl rfl (yv_move rfl) (guard_yes rfl rfl rfl (ops_y hH137 rfl rfl (yv_move rfl) (guard_yes rfl rfl rfl ?_)))
        refine ops_y hH137 rfl rfl (yv_len T.sl22 rfl (Heap.rdw T.el22_encI hH137 (n := 0) rfl).is) ?_
        refine guard_yes rfl rfl rfl ?_
        refine ops_y hH137 rfl rfl (yv_gtr rfl rfl) ?_
        refine ops_y hH137 rfl rfl (yv_pick_f rfl rfl rfl) ?_
        refine ops_y hH137 rfl rfl (yv_move rfl) ?_
        have hc188 : ¬ (0 < (([] : List Int).length : Int)) := by simp
        refine guard_yes rfl rfl (decide_eq_false hc188) ?_
        refine ops_y hH137 rfl rfl (yv_move rfl) ?_
        refine guard_yes rfl rfl (decide_eq_false hc188) ?_
        refine ops_y hH137 rfl rfl (yv_castB rfl (yv_neq rfl rfl)) ?_
        refine ops_y hH137 rfl rfl (yv_pick_f rfl (decide_eq_false hc188) rfl) ?_
        refine ops_y hH137 rfl rfl (yv_move rfl) (guard_yes rfl rfl rfl (ops_y hH137 rfl rfl (yv_move rfl) (guard_yes rfl rfl rfl (ops_y hH137 rfl rfl (yv_move rfl) (guard_yes rfl rfl rfl ?_)))))
        refine op_fnV rfl rfl rfl hH137 (c46 (h0.now hH137 (n := 1) rfl) (by omega)) (fun w189 hH190 => ?_)
        refine guard_yes rfl rfl rfl ?_
        refine ops_y hH190 rfl rfl (yv_neq rfl rfl) ?_
        refine ops_y hH190 rfl rfl (yv_pick_f rfl rfl rfl) ?_
        refine ops_y hH190 rfl rfl (yv_move rfl) ?_
        have hc191 : ¬ (¬ ((S.checkNone l (S.noneL l : Int)) = 0)) := by omega
        refine guard_yes rfl rfl (not_decide_f hc191) ?_
        refine ops_y hH190 rfl rfl (yv_move rfl) ?_
        refine guard_yes rfl rfl (not_decide_f hc191) ?_
        refine ops_y hH190 rfl rfl (yv_move rfl) ?_
        refine guard_yes rfl rfl (not_decide_f hc191) ?_
        refine op_fnV rfl rfl rfl hH190 (c47 (h0.now hH190 (n := 1) rfl) (by omega)) (fun w192 hH193 => ?_)
        refine guard_yes rfl rfl (not_decide_f hc191) ?_
        refine ops_y hH193 rfl rfl (yv_castB (not_decide_f hc191) (yv_neq rfl rfl)) ?_
        refine ops_y hH193 rfl rfl (yv_pick_f rfl (not_decide_f hc191) rfl) ?_
        refine ops_nil (thn_n ?_)
        refine cond_f rfl rfl ?_
        refine skip (thn_n (seq (region (ops_y hH193 rfl rfl (yv_move rfl) ?_))))
        refine op_fn rfl rfl rfl hH193 ((by have h := c36 (h0.now hH193 (n := 1) rfl) (by omega) (t := 2); simp only [hpo] at h; exact h)) (fun u196 w194 lo197 hi198 hH195 hv199 => ?_)
        obtain ⟨p201, hu, -⟩ := hv199
        subst hu
        have hH200 := Heap.tup2 hH195 (n := 0) rfl
        refine ops_y hH200 rfl rfl (yv_move rfl) (ops_y hH200 rfl rfl (yv_extract rfl rfl) (ops_y hH200 rfl rfl (yv_extract rfl rfl) (ops_y hH200 rfl rfl (yv_assign rfl) (ops_y hH200 rfl rfl (yv_assign rfl) (ops_nil (thn_n (seq (seq (region ?_)))))))))
        refine ops_y hH200 rfl rfl (yv_move rfl) ?_
        refine ops_y hH200 rfl rfl (yv_castB rfl (yv_neq rfl rfl)) ?_
        refine ops_y hH200 rfl rfl (yv_move rfl) (guard_yes rfl rfl rfl (ops_y hH200 rfl rfl (yv_move rfl) (guard_yes rfl rfl rfl ?_)))
        refine op_fnV rfl rfl rfl hH200 (c56 (Heap.rdw T.el22_encI hH200 (n := 0) rfl)) (fun w202 hH203 => ?_)
        refine guard_yes rfl rfl rfl ?_
        refine ops_y hH203 rfl rfl (yv_not rfl) ?_
        refine ops_y hH203 rfl rfl (yv_pick_f rfl rfl rfl) ?_
        refine ops_y hH203 rfl rfl (yv_move rfl) ?_
        have hc204 : ¬ (¬ (S.J (S.pw l 2))) := fun h => h hJd
        refine guard_yes rfl rfl (not_decide_f hc204) ?_
        refine ops_y hH203 rfl rfl (yv_move rfl) ?_
        refine guard_yes rfl rfl (not_decide_f hc204) ?_
        refine ops_y hH203 rfl rfl (yv_len T.sl22 rfl (Heap.rdw T.el22_encI hH203 (n := 0) rfl).is) ?_
        refine guard_yes rfl rfl (not_decide_f hc204) ?_
        refine ops_y hH203 rfl rfl (yv_move rfl) ?_
        refine guard_yes rfl rfl (not_decide_f hc204) ?_
        refine ops_y hH203 rfl rfl (yv_len T.sl22 rfl (h0.now hH203 (n := 2) rfl).is) ?_
        refine guard_yes rfl rfl (not_decide_f hc204) ?_
        refine ops_y hH203 rfl rfl (yv_neq rfl rfl) ?_
        refine ops_y hH203 rfl rfl (yv_pick_f rfl (not_decide_f hc204) rfl) ?_
        refine ops_nil (thn_n ?_)
        have hc205 : ¬ (¬ (((S.pw l 2).length : Int) = (l.length : Int))) := by omega
        refine cond_f rfl (not_decide_f hc205) ?_
        refine skip (thn_n (seq (region (ops_y hH203 rfl rfl (yv_move rfl) ?_))))
        refine op_fn rfl rfl rfl hH203 ((by have h := c42 (Heap.rdw T.el22_encI hH203 (n := 0) rfl) (by omega); simp only [hrq] at h; exact h)) (fun u208 w206 lo209 hi210 hH207 hv211 => ?_)
        obtain ⟨p213, hu, -⟩ := hv211
        subst hu
        have hH212 := Heap.tup2 hH207 (n := 0) rfl
        refine ops_y hH212 rfl rfl (yv_move rfl) (ops_y hH212 rfl rfl (yv_extract rfl rfl) (ops_y hH212 rfl rfl (yv_extract rfl rfl) (ops_y hH212 rfl rfl (yv_assign rfl) (ops_y hH212 rfl rfl (yv_assign rfl) (ops_nil (thn_n (seq (region (ops_y hH212 rfl rfl (yv_move rfl) ?_)))))))))
        refine ops_y hH212 rfl rfl (yv_castB rfl (yv_eql rfl rfl)) ?_
        refine ops_y hH212 rfl rfl (yv_move rfl) (guard_yes rfl rfl rfl (ops_y hH212 rfl rfl (yv_move rfl) (guard_yes rfl rfl rfl ?_)))
        refine ops_y hH212 rfl rfl (yv_len T.sl22 rfl (Heap.rdw T.el22_encI hH212 (n := 0) rfl).is) ?_
        refine guard_yes rfl rfl rfl (ops_y hH212 rfl rfl (yv_move rfl) (guard_yes rfl rfl rfl ?_))
        refine ops_y hH212 rfl rfl (yv_len T.sl22 rfl (h0.now hH212 (n := 3) rfl).is) ?_
        refine guard_yes rfl rfl rfl ?_
        refine ops_y hH212 rfl rfl (yv_eql rfl rfl) ?_
        refine ops_y hH212 rfl rfl (yv_pick_t rfl rfl rfl) ?_
        refine ops_y hH212 rfl rfl (yv_move rfl) ?_
        have hc214 : ((S.rt (S.pw l 2) (S.none1 (S.pw l 2).length)).length : Int) = (l.length : Int) := by omega
        refine guard_yes rfl rfl (decide_eq_true hc214) ?_
        refine ops_y hH212 rfl rfl (yv_move rfl) ?_
        refine guard_yes rfl rfl (decide_eq_true hc214) ?_
        refine op_fnV rfl rfl rfl hH212 (c56 (Heap.rdw T.el22_encI hH212 (n := 0) rfl)) (fun w215 hH216 => ?_)
        refine ops_y hH216 rfl rfl (yv_pick_t rfl (decide_eq_true hc214) rfl) ?_
        refine ops_y hH216 rfl rfl (yv_move rfl) ?_
        have hc217 : S.J (S.rt (S.pw l 2) (S.none1 (S.pw l 2).length)) := hqa
        refine guard_yes rfl rfl (decide_eq_true hc217) ?_
        refine ops_y hH216 rfl rfl (yv_move rfl) ?_
        refine guard_yes rfl rfl (decide_eq_true hc217) ?_
        refine ops_y hH216 rfl rfl (yv_move rfl) ?_
        refine guard_yes rfl rfl (decide_eq_true hc217) ?_
        refine op_fn rfl rfl rfl hH216 (c63 (Heap.rdw T.el22_encI hH216 (n := 0) rfl) (Heap.rdw T.el22_encI hH216 (n := 0) rfl) (by omega) hqi) (fun u220 w218 lo221 hi222 hH219 hv223 => ?_)
        have hH224 := Heap.toOw hH219 (n := 0) rfl
        refine guard_yes rfl rfl (decide_eq_true hc217) ?_
        refine ops_y hH224 rfl rfl (yv_move rfl) ?_
        refine guard_yes rfl rfl (decide_eq_true hc217) ?_
        refine op_fnV rfl rfl rfl hH224 (c33 (Heap.rdw T.el22_encI hH224 (n := 0) rfl) (Heap.rdw T.el22_encI hH224 (n := 2) rfl) (by omega) (by omega)) (fun w225 hH226 => ?_)
        refine ops_y hH226 rfl rfl (yv_pick_t rfl (decide_eq_true hc217) rfl) ?_
        refine ops_y hH226 rfl rfl (yv_move rfl) ?_
        have hc227 : (S.behind (S.rt (S.pw l 2) (S.none1 (S.pw l 2).length)) (S.rt (S.pw l 2) (S.none1 (S.pw l 2).length))) = (S.pw l 2) := hqb
        refine guard_yes rfl rfl (decide_eq_true hc227) ?_
        refine ops_y hH226 rfl rfl (yv_move rfl) ?_
        refine guard_yes rfl rfl (decide_eq_true hc227) ?_
        refine ops_y hH226 rfl rfl (yv_move rfl) ?_
        refine guard_yes rfl rfl (decide_eq_true hc227) ?_
        refine op_fnV rfl rfl rfl hH226 (c64 (h0.now hH226 (n := 4) rfl) (Heap.rdw T.el22_encI hH226 (n := 1) rfl) (by omega) (by omega)) (fun w228 hH229 => ?_)
        refine guard_yes rfl rfl (decide_eq_true hc227) ?_
        refine ops_y hH229 rfl rfl (yv_not rfl) ?_
        refine ops_y hH229 rfl rfl (yv_pick_t rfl (decide_eq_true hc227) rfl) ?_
        refine ops_y hH229 rfl rfl (yv_move rfl) ?_
        have hc230 : (!(S.lexB l (S.rt (S.pw l 2) (S.none1 (S.pw l 2).length)))) = true := by simp [hlex]
        refine guard_yes rfl rfl hc230 ?_
        refine op_fnV rfl rfl rfl hH229 (c18) (fun w231 hH232 => ?_)
        refine ops_y hH232 rfl rfl (yv_pick_t rfl hc230 rfl) ?_
        refine ops_y hH232 rfl rfl (yv_assign rfl) (ops_nil (thn_n (ret ?_)))
        have hH233 := (hH232.sub (List.Sublist.cons _ (List.Sublist.cons _ (List.Sublist.cons _ (List.Sublist.cons _ (List.Sublist.refl _))))))
        refine fin hH233 (fun w' hf => (res1 rfl (show RV _ _ _ (.tmp 4) _ from rfl))) (fun w' hf => ?_)
        rfl
  · skip
    have hnj : ¬ S.J l := ‹_›
    refine region (ops_y hH rfl rfl (yv_move rfl) ?_)
    refine op_fnV rfl rfl rfl hH (c56 (h0.now hH (n := 0) rfl)) (fun w234 hH235 => ?_)
    refine ops_y hH235 rfl rfl (yv_castB (bnot_t (decide_eq_false hc1)) (yv_not rfl)) ?_
    refine ops_nil (thn_n ?_)
    refine cond_t rfl rfl ?_
    refine seq (region ?_)
    refine op_fnV rfl rfl rfl hH235 (c18) (fun w236 hH237 => ?_)
    refine ops_y hH237 rfl rfl (yv_assign rfl) (ops_nil (thn_n (ret (thn_r ?_))))
    refine fin hH237 (fun w' hf => (res1 rfl (show RV _ _ _ (.tmp 4) _ from rfl))) (fun w' hf => ?_)
    rfl

end Go.Fip
