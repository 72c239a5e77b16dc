/- Walks, by program (wip/tools). -/
import Derived.Test.YtlekkopaeiblfaaXf
set_option linter.unusedVariables false
set_option linter.unusedSimpArgs false
set_option linter.unusedSectionVars false
set_option linter.unnecessarySimpa false
namespace Go.Fip
open Go.Proofs Go.RowKit

set_option maxHeartbeats 4000000 in
theorem c8 {v vby vc : Value} {js : List S.Pr} {bs c : List Int} {w : World} (h0 : Rd encP 2 v js w) (hby : Rd encB 1 vby bs w) (hbb : ∀ n ∈ bs, 0 ≤ n ∧ n ≤ 255) (hC : Rd encI 1 vc c w)  :
    Fn Try.prog 8 [v, vby, vc].toArray w (fun u _ => u = .bool true) := by
  refine fn_of' (args := [v, vby, vc]) Try.func8 rfl (ent Try.func8 (by kernel_rfl) rfl) rfl rfl (fun hH => ?_)
  refine seq ?_
  refine region ?_
  refine ops_y hH rfl rfl (yv_assign rfl) ?_
  refine ops_nil ?_
  refine thn_n ?_
  refine seq ?_
  refine seq ?_
  by_cases hc1 : S.Jobs js
  · skip
    have hj : S.Jobs js := ‹_›
    have hl1 := hj.1
    have hl8 := hj.2.1
    have hc0 := S.checkJobs_iff.2 hj
    refine region ?_
    refine ops_y hH rfl rfl (yv_move rfl) ?_
    refine op_fnV rfl rfl rfl hH (c41c (h0.now hH (n := 0) rfl)) (fun w2 hH3 => ?_)
    refine ops_y hH3 rfl rfl (yv_castB (bnot_f (decide_eq_true hc1)) (yv_not rfl)) ?_
    refine ops_y hH3 rfl rfl (yv_move rfl) ?_
    refine guard_yes rfl rfl rfl ?_
    refine ops_y hH3 rfl rfl (yv_move rfl) ?_
    refine guard_yes rfl rfl rfl ?_
    refine ops_y hH3 rfl rfl (yv_len T.sl54 rfl (hby.now hH3 (n := 0) rfl).is) ?_
    refine guard_yes rfl rfl rfl ?_
    refine ops_y hH3 rfl rfl (yv_gtr rfl rfl) ?_
    refine ops_y hH3 rfl rfl (yv_pick_f rfl rfl rfl) ?_
    refine ops_y hH3 rfl rfl (yv_move rfl) ?_
    by_cases hc4 : 60 < (bs.length : Int)
    · skip
      refine guard_no rfl rfl (decide_eq_true hc4) rfl ?_
      refine guard_no rfl rfl (decide_eq_true hc4) rfl ?_
      refine guard_no rfl rfl (decide_eq_true hc4) rfl ?_
      refine ops_y hH3 rfl rfl (yv_pick_t rfl (decide_eq_true hc4) rfl) ?_
      refine ops_nil ?_
      refine thn_n ?_
      refine cond_t rfl rfl ?_
      refine seq ?_
      refine region ?_
      refine op_fnV rfl rfl rfl hH3 (c17) (fun w5 hH6 => ?_)
      refine ops_y hH6 rfl rfl (yv_assign rfl) ?_
      refine ops_nil ?_
      refine thn_n ?_
      refine ret ?_
      refine thn_r ?_
      refine fin hH6 (fun w' hf => (res1 rfl (show RV _ _ _ (.tmp 6) _ from rfl))) (fun w' hf => ?_)
      rfl
    · skip
      refine guard_yes rfl rfl (decide_eq_false hc4) ?_
      refine ops_y hH3 rfl rfl (yv_move rfl) ?_
      refine guard_yes rfl rfl (decide_eq_false hc4) ?_
      refine ops_y hH3 rfl rfl (yv_len T.sl39 rfl (hC.now hH3 (n := 0) rfl).is) ?_
      refine guard_yes rfl rfl (decide_eq_false hc4) ?_
      refine ops_y hH3 rfl rfl (yv_gtr rfl rfl) ?_
      refine ops_y hH3 rfl rfl (yv_pick_f rfl (decide_eq_false hc4) rfl) ?_
      refine ops_nil ?_
      refine thn_n ?_
      by_cases hc7 : 30 < (c.length : Int)
      · skip
        refine cond_t rfl (decide_eq_true hc7) ?_
        refine seq ?_
        refine region ?_
        refine op_fnV rfl rfl rfl hH3 (c17) (fun w8 hH9 => ?_)
        refine ops_y hH9 rfl rfl (yv_assign rfl) ?_
        refine ops_nil ?_
        refine thn_n ?_
        refine ret ?_
        refine thn_r ?_
        refine fin hH9 (fun w' hf => (res1 rfl (show RV _ _ _ (.tmp 6) _ from rfl))) (fun w' hf => ?_)
        rfl
      · skip
        refine cond_f rfl (decide_eq_false hc7) ?_
        refine skip ?_
        refine thn_n ?_
        refine seq ?_
        have hO := S.ordered_ok (by_ := bs) js.length
        have hco := S.checkOrder_iff.2 ⟨hj, hO⟩
        have hoB : (S.ordB bs js.length).length = js.length := hO.1
        have hoU : (S.ordU bs js.length).length = js.length := hO.2.1
        have hoF : (S.ordF bs js.length).length = js.length := hO.2.2.1
        have hpl := S.play_len2 (l := js) (B := (S.ordB bs js.length)) (U := (S.ordU bs js.length)) (F := (S.ordF bs js.length))
        refine region ?_
        refine ops_y hH3 rfl rfl (yv_move rfl) ?_
        refine ops_y hH3 rfl rfl (yv_len T.sl22 rfl (h0.now hH3 (n := 0) rfl).is) ?_
        refine ops_y hH3 rfl rfl (yv_move rfl) ?_
        refine op_fn rfl rfl rfl hH3 (c43 (n := js.length) ((hby.now hH3 (n := 0) rfl)) (by omega) hbb (by omega)) (fun u12 w10 lo13 hi14 hH11 hv15 => ?_)
        obtain ⟨ob16, ot17, of18, hu, -⟩ := hv15
        subst hu
        have hH19 := Heap.rd3 hH11 (n := 0) rfl
        refine op_alloc (z := (.agg #[(.slice none 0 0), (.slice none 0 0), (.slice none 0 0)])) (us := [(.slice none 0 0), (.slice none 0 0), (.slice none 0 0)]) (fun _ => by kernel_rfl) rfl rfl hH19 (fun b20 w21 hH22 => ?_)
        refine op_store (n := 0) (j := 0) (us := [ob16, ot17, of18]) rfl rfl hH22 rfl T.sz41 rfl rfl rfl (all_one (SliceIs.one1 ((Heap.getRd3 hH22 (n := 1) rfl).1).is) (all_one (SliceIs.one1 ((Heap.getRd3 hH22 (n := 1) rfl).2.1).is) (all_one (SliceIs.one1 ((Heap.getRd3 hH22 (n := 1) rfl).2.2).is) rfl))) (fun w23 hH24 => ?_)
        refine ops_nil ?_
        refine thn_n ?_
        refine seq ?_
        by_cases hc25 : ∃ p, S.SolP js (S.ordB bs js.length) (S.ordU bs js.length) (S.ordF bs js.length) p
        · skip
          obtain ⟨p, hs⟩ := ‹∃ p, S.SolP js (S.ordB bs js.length) (S.ordU bs js.length) (S.ordF bs js.length) p›
          have hs := hs
          obtain ⟨hpy, hce⟩ := S.play_yes hj hco hs
          have hck := hs.check hj hO
          have hnc := S.no_circle (c := c) hj hs
          have hpn := hs.1
          refine region ?_
          refine ops_y hH24 rfl rfl (yv_move rfl) ?_
          refine ops_y hH24 rfl rfl (yv_loadA (cs := [ob16, ot17, of18]) T.agg41 rfl rfl (fun _ hw => Heap.cellsw hw (n := 0) rfl (k := 0) rfl)) ?_
          have hev28 : Fn Try.prog 32 [v, (.agg #[ob16, ot17, of18])].toArray _ _ := c32 (h0.now hH24 (n := 2) rfl) ((Heap.getRd3 hH24 (n := 1) rfl).1) ((Heap.getRd3 hH24 (n := 1) rfl).2.1) ((Heap.getRd3 hH24 (n := 1) rfl).2.2) (by omega) (by omega) (by omega) (by omega)
          simp only [hpy] at hev28
          refine op_fn rfl rfl rfl hH24 (hev28) (fun u29 w26 lo30 hi31 hH27 hv32 => ?_)
          obtain ⟨p34, hu, -⟩ := hv32
          subst hu
          have hH33 := Heap.tup2 hH27 (n := 0) rfl
          refine ops_y hH33 rfl rfl (yv_move rfl) ?_
          refine ops_y hH33 rfl rfl (yv_extract rfl rfl) ?_
          refine ops_y hH33 rfl rfl (yv_extract rfl rfl) ?_
          refine ops_y hH33 rfl rfl (yv_assign rfl) ?_
          refine ops_y hH33 rfl rfl (yv_assign rfl) ?_
          refine ops_nil ?_
          refine thn_n ?_
          refine seq ?_
          refine region ?_
          refine ops_y hH33 rfl rfl (yv_move rfl) ?_
          refine ops_y hH33 rfl rfl (yv_loadA (cs := [ob16, ot17, of18]) T.agg41 rfl rfl (fun _ hw => Heap.cellsw hw (n := 1) rfl (k := 0) rfl)) ?_
          have hev37 : Fn Try.prog 37 [v, (.agg #[ob16, ot17, of18])].toArray _ _ := c37 (h0.now hH33 (n := 3) rfl) ((Heap.getRd3 hH33 (n := 2) rfl).1) ((Heap.getRd3 hH33 (n := 2) rfl).2.1) ((Heap.getRd3 hH33 (n := 2) rfl).2.2) (by first | omega | simp | (simp only [List.length_map]; omega)) (by first | omega | simp | (simp only [List.length_map]; omega)) (by first | omega | simp | (simp only [List.length_map]; omega)) (by first | omega | simp | (simp only [List.length_map]; omega))
          simp only [hce] at hev37
          refine op_fn rfl rfl rfl hH33 (hev37) (fun u38 w35 lo39 hi40 hH36 hv41 => ?_)
          obtain ⟨q42, c43, hu, ho46, hcok44⟩ := hv41
          subst hu
          have hH45 := Heap.toOwAny hH36 (n := 0) rfl (fun w' h => by obtain ⟨_, ys, e, h, _⟩ := h; cases e; exact ⟨ys, h⟩) ho46
          refine ops_y hH45 rfl rfl (yv_move rfl) ?_
          refine ops_y hH45 rfl rfl (yv_extract rfl rfl) ?_
          refine ops_y hH45 rfl rfl (yv_extract rfl rfl) ?_
          refine ops_y hH45 rfl rfl (yv_assign rfl) ?_
          refine ops_y hH45 rfl rfl (yv_assign rfl) ?_
          refine ops_nil ?_
          refine thn_n ?_
          refine seq ?_
          have hclen := hcok44.2.2
          have hz : c43 = [] := hcok44.1 (by omega)
          refine region ?_
          refine ops_y hH45 rfl rfl (yv_move rfl) ?_
          refine ops_y hH45 rfl rfl (yv_loadA (cs := [ob16, ot17, of18]) T.agg41 rfl rfl (fun _ hw => Heap.cellsw hw (n := 2) rfl (k := 0) rfl)) ?_
          refine ops_y hH45 rfl rfl (yv_move rfl) ?_
          refine op_fnV rfl rfl rfl hH45 (c39 (h0.now hH45 (n := 4) rfl) ((Heap.getRd3 hH45 (n := 3) rfl).1) ((Heap.getRd3 hH45 (n := 3) rfl).2.1) ((Heap.getRd3 hH45 (n := 3) rfl).2.2) (hC.now hH45 (n := 4) rfl) (by omega) (by omega) (by omega) (by omega) (by omega)) (fun w47 hH48 => ?_)
          refine ops_y hH48 rfl rfl (yv_assign rfl) ?_
          refine ops_nil ?_
          refine thn_n ?_
          refine seq ?_
          refine seq ?_
          refine region ?_
          refine ops_y hH48 rfl rfl (yv_move rfl) ?_
          refine ops_y hH48 rfl rfl (yv_castB rfl (yv_eql rfl rfl)) ?_
          refine ops_nil ?_
          refine thn_n ?_
          refine cond_t rfl rfl ?_
          refine seq ?_
          refine region ?_
          refine ops_y hH48 rfl rfl (yv_move rfl) ?_
          refine ops_y hH48 rfl rfl (yv_move rfl) ?_
          have hev51 : Fn Try.prog 44 [v, p34].toArray _ _ := c44 (h0.now hH48 (n := 4) rfl) (Heap.rdw T.el23_encP hH48 (n := 1) rfl) (by omega) (by omega)
          simp only [hck, decide_true] at hev51
          refine op_fnV rfl rfl rfl hH48 (hev51) (fun w49 hH50 => ?_)
          refine ops_y hH50 rfl rfl (yv_move rfl) ?_
          refine ops_y hH50 rfl rfl (yv_extract rfl rfl) ?_
          refine ops_y hH50 rfl rfl (yv_extract rfl rfl) ?_
          refine ops_y hH50 rfl rfl (yv_assign rfl) ?_
          refine ops_y hH50 rfl rfl (yv_assign rfl) ?_
          refine ops_nil ?_
          refine thn_n ?_
          refine seq ?_
          refine region ?_
          refine ops_y hH50 rfl rfl (yv_move rfl) ?_
          refine ops_y hH50 rfl rfl (yv_move rfl) ?_
          refine guard_yes rfl rfl rfl ?_
          refine ops_y hH50 rfl rfl (yv_move rfl) ?_
          refine guard_yes rfl rfl rfl ?_
          refine ops_y hH50 rfl rfl (yv_castB rfl (yv_eql rfl rfl)) ?_
          refine ops_y hH50 rfl rfl (yv_pick_t rfl rfl rfl) ?_
          refine ops_y hH50 rfl rfl (yv_move rfl) ?_
          refine guard_yes rfl rfl rfl ?_
          refine ops_y hH50 rfl rfl (yv_move rfl) ?_
          refine guard_yes rfl rfl rfl ?_
          refine ops_y hH50 rfl rfl (yv_len T.sl39 rfl (Heap.rdw T.el39_encI hH50 (n := 0) rfl).is) ?_
          refine guard_yes rfl rfl rfl ?_
          refine ops_y hH50 rfl rfl (yv_eql rfl rfl) ?_
          refine ops_y hH50 rfl rfl (yv_pick_t rfl rfl rfl) ?_
          refine ops_y hH50 rfl rfl (yv_move rfl) ?_
          have hc52 : (c43.length : Int) = 0 := by rw [hz]; rfl
          refine guard_yes rfl rfl (decide_eq_true hc52) ?_
          refine ops_y hH50 rfl rfl (yv_move rfl) ?_
          refine guard_yes rfl rfl (decide_eq_true hc52) ?_
          refine ops_y hH50 rfl rfl (yv_neq rfl rfl) ?_
          refine ops_y hH50 rfl rfl (yv_pick_t rfl (decide_eq_true hc52) rfl) ?_
          refine ops_y hH50 rfl rfl (yv_move rfl) ?_
          have hc53 : ¬ ((S.checkCircle js (S.ordB bs js.length) (S.ordU bs js.length) (S.ordF bs js.length) c) = 0) := hnc
          refine guard_yes rfl rfl (not_decide_t hc53) ?_
          refine op_fnV rfl rfl rfl hH50 (c17) (fun w54 hH55 => ?_)
          refine ops_y hH55 rfl rfl (yv_pick_t rfl (not_decide_t hc53) rfl) ?_
          refine ops_y hH55 rfl rfl (yv_assign rfl) ?_
          refine ops_nil ?_
          refine thn_n ?_
          refine ret ?_
          refine thn_r ?_
          have hH56 := (hH55.sub (List.Sublist.cons _ (List.Sublist.cons _ (List.Sublist.cons _ (List.Sublist.cons _ (List.Sublist.refl _))))))
          refine fin hH56 (fun w' hf => (res1 rfl (show RV _ _ _ (.tmp 6) _ from rfl))) (fun w' hf => ?_)
          rfl
        · skip
          have hns : ¬ ∃ p, S.SolP js (S.ordB bs js.length) (S.ordU bs js.length) (S.ordF bs js.length) p := ‹_›
          obtain ⟨hpy, hce⟩ := S.play_no hco hns
          refine region ?_
          refine ops_y hH24 rfl rfl (yv_move rfl) ?_
          refine ops_y hH24 rfl rfl (yv_loadA (cs := [ob16, ot17, of18]) T.agg41 rfl rfl (fun _ hw => Heap.cellsw hw (n := 0) rfl (k := 0) rfl)) ?_
          have hev59 : Fn Try.prog 32 [v, (.agg #[ob16, ot17, of18])].toArray _ _ := c32 (h0.now hH24 (n := 2) rfl) ((Heap.getRd3 hH24 (n := 1) rfl).1) ((Heap.getRd3 hH24 (n := 1) rfl).2.1) ((Heap.getRd3 hH24 (n := 1) rfl).2.2) (by omega) (by omega) (by omega) (by omega)
          simp only [hpy] at hev59
          refine op_fn rfl rfl rfl hH24 (hev59) (fun u60 w57 lo61 hi62 hH58 hv63 => ?_)
          obtain ⟨p65, hu, -⟩ := hv63
          subst hu
          have hH64 := Heap.tup2 hH58 (n := 0) rfl
          refine ops_y hH64 rfl rfl (yv_move rfl) ?_
          refine ops_y hH64 rfl rfl (yv_extract rfl rfl) ?_
          refine ops_y hH64 rfl rfl (yv_extract rfl rfl) ?_
          refine ops_y hH64 rfl rfl (yv_assign rfl) ?_
          refine ops_y hH64 rfl rfl (yv_assign rfl) ?_
          refine ops_nil ?_
          refine thn_n ?_
          refine seq ?_
          refine region ?_
          refine ops_y hH64 rfl rfl (yv_move rfl) ?_
          refine ops_y hH64 rfl rfl (yv_loadA (cs := [ob16, ot17, of18]) T.agg41 rfl rfl (fun _ hw => Heap.cellsw hw (n := 1) rfl (k := 0) rfl)) ?_
          have hev68 : Fn Try.prog 37 [v, (.agg #[ob16, ot17, of18])].toArray _ _ := c37 (h0.now hH64 (n := 3) rfl) ((Heap.getRd3 hH64 (n := 2) rfl).1) ((Heap.getRd3 hH64 (n := 2) rfl).2.1) ((Heap.getRd3 hH64 (n := 2) rfl).2.2) (by first | omega | simp | (simp only [List.length_map]; omega)) (by first | omega | simp | (simp only [List.length_map]; omega)) (by first | omega | simp | (simp only [List.length_map]; omega)) (by first | omega | simp | (simp only [List.length_map]; omega))
          simp only [hce] at hev68
          refine op_fn rfl rfl rfl hH64 (hev68) (fun u69 w66 lo70 hi71 hH67 hv72 => ?_)
          obtain ⟨q73, c74, hu, ho77, hcok75⟩ := hv72
          subst hu
          have hH76 := Heap.toOwAny hH67 (n := 0) rfl (fun w' h => by obtain ⟨_, ys, e, h, _⟩ := h; cases e; exact ⟨ys, h⟩) ho77
          refine ops_y hH76 rfl rfl (yv_move rfl) ?_
          refine ops_y hH76 rfl rfl (yv_extract rfl rfl) ?_
          refine ops_y hH76 rfl rfl (yv_extract rfl rfl) ?_
          refine ops_y hH76 rfl rfl (yv_assign rfl) ?_
          refine ops_y hH76 rfl rfl (yv_assign rfl) ?_
          refine ops_nil ?_
          refine thn_n ?_
          refine seq ?_
          have hclen := hcok75.2.2
          have hcc := hcok75.2.1 hce
          refine region ?_
          refine ops_y hH76 rfl rfl (yv_move rfl) ?_
          refine ops_y hH76 rfl rfl (yv_loadA (cs := [ob16, ot17, of18]) T.agg41 rfl rfl (fun _ hw => Heap.cellsw hw (n := 2) rfl (k := 0) rfl)) ?_
          refine ops_y hH76 rfl rfl (yv_move rfl) ?_
          refine op_fnV rfl rfl rfl hH76 (c39 (h0.now hH76 (n := 4) rfl) ((Heap.getRd3 hH76 (n := 3) rfl).1) ((Heap.getRd3 hH76 (n := 3) rfl).2.1) ((Heap.getRd3 hH76 (n := 3) rfl).2.2) (hC.now hH76 (n := 4) rfl) (by omega) (by omega) (by omega) (by omega) (by omega)) (fun w78 hH79 => ?_)
          refine ops_y hH79 rfl rfl (yv_assign rfl) ?_
          refine ops_nil ?_
          refine thn_n ?_
          refine seq ?_
          refine seq ?_
          refine region ?_
          refine ops_y hH79 rfl rfl (yv_move rfl) ?_
          refine ops_y hH79 rfl rfl (yv_castB rfl (yv_eql rfl rfl)) ?_
          refine ops_nil ?_
          refine thn_n ?_
          refine cond_f rfl rfl ?_
          refine skip ?_
          refine thn_n ?_
          refine seq ?_
          refine region ?_
          refine ops_y hH79 rfl rfl (yv_move rfl) ?_
          refine ops_y hH79 rfl rfl (yv_castB rfl (yv_eql rfl rfl)) ?_
          refine ops_y hH79 rfl rfl (yv_move rfl) ?_
          refine guard_yes rfl rfl rfl ?_
          refine ops_y hH79 rfl rfl (yv_move rfl) ?_
          refine guard_yes rfl rfl rfl ?_
          refine ops_y hH79 rfl rfl (yv_len T.sl23 rfl (Heap.rdw T.el23_encP hH79 (n := 1) rfl).is) ?_
          refine guard_yes rfl rfl rfl ?_
          refine ops_y hH79 rfl rfl (yv_eql rfl rfl) ?_
          refine ops_y hH79 rfl rfl (yv_pick_t rfl rfl rfl) ?_
          refine ops_y hH79 rfl rfl (yv_move rfl) ?_
          have hc80 : (([] : List S.Pr).length : Int) = 0 := rfl
          refine guard_yes rfl rfl (decide_eq_true hc80) ?_
          refine ops_y hH79 rfl rfl (yv_move rfl) ?_
          refine guard_yes rfl rfl (decide_eq_true hc80) ?_
          refine ops_y hH79 rfl rfl (yv_castB rfl (yv_eql rfl rfl)) ?_
          refine ops_y hH79 rfl rfl (yv_pick_t rfl (decide_eq_true hc80) rfl) ?_
          refine ops_y hH79 rfl rfl (yv_move rfl) ?_
          refine guard_yes rfl rfl rfl ?_
          refine ops_y hH79 rfl rfl (yv_move rfl) ?_
          refine guard_yes rfl rfl rfl ?_
          refine ops_y hH79 rfl rfl (yv_loadA (cs := [ob16, ot17, of18]) T.agg41 rfl rfl (fun _ hw => Heap.cellsw hw (n := 2) rfl (k := 0) rfl)) ?_
          refine guard_yes rfl rfl rfl ?_
          refine ops_y hH79 rfl rfl (yv_move rfl) ?_
          refine guard_yes rfl rfl rfl ?_
          have hev83 : Fn Try.prog 39 [v, (.agg #[ob16, ot17, of18]), q73].toArray _ _ := c39 (h0.now hH79 (n := 4) rfl) ((Heap.getRd3 hH79 (n := 3) rfl).1) ((Heap.getRd3 hH79 (n := 3) rfl).2.1) ((Heap.getRd3 hH79 (n := 3) rfl).2.2) (Heap.rdw T.el39_encI hH79 (n := 0) rfl) (by omega) (by omega) (by omega) (by omega) (by omega)
          simp only [hcc] at hev83
          refine op_fnV rfl rfl rfl hH79 (hev83) (fun w81 hH82 => ?_)
          refine guard_yes rfl rfl rfl ?_
          refine ops_y hH82 rfl rfl (yv_castB rfl (yv_eql rfl rfl)) ?_
          refine ops_y hH82 rfl rfl (yv_pick_t rfl rfl rfl) ?_
          refine ops_y hH82 rfl rfl (yv_move rfl) ?_
          refine guard_yes rfl rfl rfl ?_
          refine ops_y hH82 rfl rfl (yv_move rfl) ?_
          refine guard_yes rfl rfl rfl ?_
          refine ops_y hH82 rfl rfl (yv_loadA (cs := [ob16, ot17, of18]) T.agg41 rfl rfl (fun _ hw => Heap.cellsw hw (n := 2) rfl (k := 0) rfl)) ?_
          refine guard_yes rfl rfl rfl ?_
          refine ops_y hH82 rfl rfl (yv_move rfl) ?_
          refine guard_yes rfl rfl rfl ?_
          have hev86 : Fn Try.prog 40 [v, (.agg #[ob16, ot17, of18]), q73].toArray _ _ := c40 (h0.now hH82 (n := 4) rfl) ((Heap.getRd3 hH82 (n := 3) rfl).1) ((Heap.getRd3 hH82 (n := 3) rfl).2.1) ((Heap.getRd3 hH82 (n := 3) rfl).2.2) (Heap.rdw T.el39_encI hH82 (n := 0) rfl) (by omega) (by omega) (by omega) (by omega) (by omega)
          simp only [hcc] at hev86
          refine op_fnV rfl rfl rfl hH82 (hev86) (fun w84 hH85 => ?_)
          refine guard_yes rfl rfl rfl ?_
          refine ops_y hH85 rfl rfl (yv_castB rfl (yv_eql rfl rfl)) ?_
          refine ops_y hH85 rfl rfl (yv_pick_t rfl rfl rfl) ?_
          refine ops_y hH85 rfl rfl (yv_move rfl) ?_
          refine guard_yes rfl rfl rfl ?_
          refine op_fnV rfl rfl rfl hH85 (c17) (fun w87 hH88 => ?_)
          refine ops_y hH88 rfl rfl (yv_pick_t rfl rfl rfl) ?_
          refine ops_y hH88 rfl rfl (yv_assign rfl) ?_
          refine ops_nil ?_
          refine thn_n ?_
          refine ret ?_
          have hH89 := (hH88.sub (List.Sublist.cons _ (List.Sublist.cons _ (List.Sublist.cons _ (List.Sublist.cons _ (List.Sublist.refl _))))))
          refine fin hH89 (fun w' hf => (res1 rfl (show RV _ _ _ (.tmp 6) _ from rfl))) (fun w' hf => ?_)
          rfl
  · skip
    have hnj : ¬ S.Jobs js := ‹_›
    refine region ?_
    refine ops_y hH rfl rfl (yv_move rfl) ?_
    refine op_fnV rfl rfl rfl hH (c41c (h0.now hH (n := 0) rfl)) (fun w90 hH91 => ?_)
    refine ops_y hH91 rfl rfl (yv_castB (bnot_t (decide_eq_false hc1)) (yv_not rfl)) ?_
    refine ops_y hH91 rfl rfl (yv_move rfl) ?_
    refine guard_no rfl rfl rfl rfl ?_
    refine guard_no rfl rfl rfl rfl ?_
    refine guard_no rfl rfl rfl rfl ?_
    refine ops_y hH91 rfl rfl (yv_pick_t rfl rfl rfl) ?_
    refine ops_y hH91 rfl rfl (yv_move rfl) ?_
    refine guard_no rfl rfl rfl rfl ?_
    refine guard_no rfl rfl rfl rfl ?_
    refine guard_no rfl rfl rfl rfl ?_
    refine ops_y hH91 rfl rfl (yv_pick_t rfl rfl rfl) ?_
    refine ops_nil ?_
    refine thn_n ?_
    refine cond_t rfl rfl ?_
    refine seq ?_
    refine region ?_
    refine op_fnV rfl rfl rfl hH91 (c17) (fun w92 hH93 => ?_)
    refine ops_y hH93 rfl rfl (yv_assign rfl) ?_
    refine ops_nil ?_
    refine thn_n ?_
    refine ret ?_
    refine thn_r ?_
    refine fin hH93 (fun w' hf => (res1 rfl (show RV _ _ _ (.tmp 6) _ from rfl))) (fun w' hf => ?_)
    rfl

end Go.Fip
