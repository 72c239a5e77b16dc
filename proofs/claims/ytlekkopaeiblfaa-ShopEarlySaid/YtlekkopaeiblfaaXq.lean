/- Walks, by program (wip/tools). -/
import Derived.Test.YtlekkopaeiblfaaXo
set_option linter.unusedVariables false
set_option linter.unusedSimpArgs false
set_option linter.unusedSectionVars false
set_option linter.unnecessarySimpa false
namespace Go.Fip
open Go.Proofs Go.RowKit

set_option maxHeartbeats 4000000 in
theorem c9 {v u vby : Value} {js ps : List S.Pr} {bs : List Int} {w : World} (h0 : Rd encP 2 v js w) (h1 : Rd encP 2 u ps w) (hby : Rd encB 1 vby bs w) (hbb : ∀ n ∈ bs, 0 ≤ n ∧ n ≤ 255)  :
    Fn Try.prog 9 [v, u, vby].toArray w (fun u _ => u = .bool true) := by
  refine fn_of' (args := [v, u, vby]) Try.func9 rfl (ent Try.func9 (by kernel_rfl) rfl) rfl rfl (fun hH => ?_)
  refine seq ?_
  refine region ?_
  refine ops_y hH rfl rfl (yv_assign rfl) ?_
  refine ops_nil ?_
  refine thn_n ?_
  refine seq ?_
  refine seq ?_
  by_cases hc1 : S.Jobs js
  · skip
    have hj : S.Jobs js := ‹_›
    have hl1 := hj.1
    have hl8 := hj.2.1
    have hc0 := S.checkJobs_iff.2 hj
    refine region ?_
    refine ops_y hH rfl rfl (yv_move rfl) ?_
    refine op_fnV rfl rfl rfl hH (c41c (h0.now hH (n := 0) rfl)) (fun w2 hH3 => ?_)
    refine ops_y hH3 rfl rfl (yv_castB (bnot_f (decide_eq_true hc1)) (yv_not rfl)) ?_
    refine ops_y hH3 rfl rfl (yv_move rfl) ?_
    refine guard_yes rfl rfl rfl ?_
    refine ops_y hH3 rfl rfl (yv_move rfl) ?_
    refine guard_yes rfl rfl rfl ?_
    refine ops_y hH3 rfl rfl (yv_len T.sl23 rfl (h1.now hH3 (n := 0) rfl).is) ?_
    refine guard_yes rfl rfl rfl ?_
    refine ops_y hH3 rfl rfl (yv_gtr rfl rfl) ?_
    refine ops_y hH3 rfl rfl (yv_pick_f rfl rfl rfl) ?_
    refine ops_y hH3 rfl rfl (yv_move rfl) ?_
    by_cases hc4 : 12 < (ps.length : Int)
    · skip
      refine guard_no rfl rfl (decide_eq_true hc4) rfl ?_
      refine guard_no rfl rfl (decide_eq_true hc4) rfl ?_
      refine guard_no rfl rfl (decide_eq_true hc4) rfl ?_
      refine ops_y hH3 rfl rfl (yv_pick_t rfl (decide_eq_true hc4) rfl) ?_
      refine ops_nil ?_
      refine thn_n ?_
      refine cond_t rfl rfl ?_
      refine seq ?_
      refine region ?_
      refine op_fnV rfl rfl rfl hH3 (c17) (fun w5 hH6 => ?_)
      refine ops_y hH6 rfl rfl (yv_assign rfl) ?_
      refine ops_nil ?_
      refine thn_n ?_
      refine ret ?_
      refine thn_r ?_
      refine fin hH6 (fun w' hf => (res1 rfl (show RV _ _ _ (.tmp 6) _ from rfl))) (fun w' hf => ?_)
      rfl
    · skip
      refine guard_yes rfl rfl (decide_eq_false hc4) ?_
      refine ops_y hH3 rfl rfl (yv_move rfl) ?_
      refine guard_yes rfl rfl (decide_eq_false hc4) ?_
      refine ops_y hH3 rfl rfl (yv_len T.sl54 rfl (hby.now hH3 (n := 0) rfl).is) ?_
      refine guard_yes rfl rfl (decide_eq_false hc4) ?_
      refine ops_y hH3 rfl rfl (yv_gtr rfl rfl) ?_
      refine ops_y hH3 rfl rfl (yv_pick_f rfl (decide_eq_false hc4) rfl) ?_
      refine ops_nil ?_
      refine thn_n ?_
      by_cases hc7 : 60 < (bs.length : Int)
      · skip
        refine cond_t rfl (decide_eq_true hc7) ?_
        refine seq ?_
        refine region ?_
        refine op_fnV rfl rfl rfl hH3 (c17) (fun w8 hH9 => ?_)
        refine ops_y hH9 rfl rfl (yv_assign rfl) ?_
        refine ops_nil ?_
        refine thn_n ?_
        refine ret ?_
        refine thn_r ?_
        refine fin hH9 (fun w' hf => (res1 rfl (show RV _ _ _ (.tmp 6) _ from rfl))) (fun w' hf => ?_)
        rfl
      · skip
        refine cond_f rfl (decide_eq_false hc7) ?_
        refine skip ?_
        refine thn_n ?_
        refine seq ?_
        refine region ?_
        refine ops_y hH3 rfl rfl (yv_move rfl) ?_
        refine ops_y hH3 rfl rfl (yv_assign rfl) ?_
        refine ops_nil ?_
        refine thn_n ?_
        refine seq ?_
        have hO := S.ordered_ok (by_ := bs) js.length
        have hco := S.checkOrder_iff.2 ⟨hj, hO⟩
        have hoB : (S.ordB bs js.length).length = js.length := hO.1
        have hoU : (S.ordU bs js.length).length = js.length := hO.2.1
        have hoF : (S.ordF bs js.length).length = js.length := hO.2.2.1
        have hpl := S.play_len2 (l := js) (B := (S.ordB bs js.length)) (U := (S.ordU bs js.length)) (F := (S.ordF bs js.length))
        refine region ?_
        refine ops_y hH3 rfl rfl (yv_move rfl) ?_
        refine ops_y hH3 rfl rfl (yv_move rfl) ?_
        refine op_fnV rfl rfl rfl hH3 (c19 (h0.now hH3 (n := 0) rfl) (h1.now hH3 (n := 0) rfl) (by omega) (by omega)) (fun w10 hH11 => ?_)
        refine ops_y hH11 rfl rfl (yv_move rfl) ?_
        refine ops_y hH11 rfl rfl (yv_extract rfl rfl) ?_
        refine ops_y hH11 rfl rfl (yv_extract rfl rfl) ?_
        refine ops_y hH11 rfl rfl (yv_assign rfl) ?_
        refine ops_y hH11 rfl rfl (yv_assign rfl) ?_
        refine ops_nil ?_
        refine thn_n ?_
        refine seq ?_
        refine seq ?_
        by_cases hc12 : (S.checkPlan js ps).2 = 0
        · skip
          have hcp : (S.checkPlan js ps).2 = 0 := ‹_›
          obtain ⟨_, hgl, hgT, hgR⟩ := S.checkPlan_iff.1 hcp
          refine region ?_
          refine ops_y hH11 rfl rfl (yv_move rfl) ?_
          refine ops_y hH11 rfl rfl (yv_neq rfl rfl) ?_
          refine ops_nil ?_
          refine thn_n ?_
          have hc13 : ¬ (¬ (((S.checkPlan js ps).2) = 0)) := fun h => h hcp
          refine cond_f rfl (not_decide_f hc13) ?_
          refine skip ?_
          refine thn_n ?_
          refine seq ?_
          obtain ⟨p, hps, hle⟩ := S.early_ok hj hgT hgl hgR
          have hO2 := S.ordOf_ok ps js.length
          have hco2 := S.checkOrder_iff.2 ⟨hj, hO2⟩
          have hpy2 := (S.play_yes hj hco2 hps).1
          have hpn := hps.1
          have hck := hps.check hj hO2
          have hag := S.again_ok hj hO2 hps
          have hO3 := S.ordOf_ok p js.length
          have hco3 := S.checkOrder_iff.2 ⟨hj, hO3⟩
          have hpy3 := (S.play_yes hj hco3 hag).1
          have hl2B : (S.rowB ps 0 js.length).length = js.length := hO2.1
          have hl2U : (S.rowB ps 1 js.length).length = js.length := hO2.2.1
          have hl2F : (S.firstsOf ps js.length).length = js.length := hO2.2.2.1
          have hl3B : (S.rowB p 0 js.length).length = js.length := hO3.1
          have hl3U : (S.rowB p 1 js.length).length = js.length := hO3.2.1
          have hl3F : (S.firstsOf p js.length).length = js.length := hO3.2.2.1
          refine region ?_
          refine ops_y hH11 rfl rfl (yv_move rfl) ?_
          have hev16 : Fn Try.prog 46 [u].toArray _ _ := c46 (h1.now hH11 (n := 0) rfl) (by omega)
          simp only [hgl] at hev16
          refine op_fn rfl rfl rfl hH11 (hev16) (fun u17 w14 lo18 hi19 hH15 hv20 => ?_)
          obtain ⟨ob21, ot22, of23, hu, -⟩ := hv20
          subst hu
          have hH24 := Heap.rd3 hH15 (n := 0) rfl
          refine op_alloc (z := (.agg #[(.slice none 0 0), (.slice none 0 0), (.slice none 0 0)])) (us := [(.slice none 0 0), (.slice none 0 0), (.slice none 0 0)]) (fun _ => by kernel_rfl) rfl rfl hH24 (fun b25 w26 hH27 => ?_)
          refine op_store (n := 0) (j := 0) (us := [ob21, ot22, of23]) rfl rfl hH27 rfl T.sz41 rfl rfl rfl (all_one (SliceIs.one1 ((Heap.getRd3 hH27 (n := 1) rfl).1).is) (all_one (SliceIs.one1 ((Heap.getRd3 hH27 (n := 1) rfl).2.1).is) (all_one (SliceIs.one1 ((Heap.getRd3 hH27 (n := 1) rfl).2.2).is) rfl))) (fun w28 hH29 => ?_)
          refine ops_nil ?_
          refine thn_n ?_
          refine seq ?_
          refine region ?_
          refine ops_y hH29 rfl rfl (yv_move rfl) ?_
          refine ops_y hH29 rfl rfl (yv_loadA (cs := [ob21, ot22, of23]) T.agg41 rfl rfl (fun _ hw => Heap.cellsw hw (n := 0) rfl (k := 0) rfl)) ?_
          have hev32 : Fn Try.prog 32 [v, (.agg #[ob21, ot22, of23])].toArray _ _ := c32 (h0.now hH29 (n := 2) rfl) ((Heap.getRd3 hH29 (n := 1) rfl).1) ((Heap.getRd3 hH29 (n := 1) rfl).2.1) ((Heap.getRd3 hH29 (n := 1) rfl).2.2) (by omega) (by omega) (by omega) (by omega)
          simp only [hpy2] at hev32
          refine op_fn rfl rfl rfl hH29 (hev32) (fun u33 w30 lo34 hi35 hH31 hv36 => ?_)
          obtain ⟨p38, hu, -⟩ := hv36
          subst hu
          have hH37 := Heap.tup2 hH31 (n := 0) rfl
          refine ops_y hH37 rfl rfl (yv_move rfl) ?_
          refine ops_y hH37 rfl rfl (yv_extract rfl rfl) ?_
          refine ops_y hH37 rfl rfl (yv_extract rfl rfl) ?_
          refine ops_y hH37 rfl rfl (yv_assign rfl) ?_
          refine ops_y hH37 rfl rfl (yv_assign rfl) ?_
          refine ops_nil ?_
          refine thn_n ?_
          refine seq ?_
          refine seq ?_
          refine region ?_
          refine ops_y hH37 rfl rfl (yv_move rfl) ?_
          refine ops_y hH37 rfl rfl (yv_castB rfl (yv_neq rfl rfl)) ?_
          refine ops_y hH37 rfl rfl (yv_move rfl) ?_
          refine guard_yes rfl rfl rfl ?_
          refine ops_y hH37 rfl rfl (yv_move rfl) ?_
          refine guard_yes rfl rfl rfl ?_
          refine ops_y hH37 rfl rfl (yv_len T.sl23 rfl (Heap.rdw T.el23_encP hH37 (n := 0) rfl).is) ?_
          refine guard_yes rfl rfl rfl ?_
          refine ops_y hH37 rfl rfl (yv_move rfl) ?_
          refine guard_yes rfl rfl rfl ?_
          refine ops_y hH37 rfl rfl (yv_len T.sl22 rfl (h0.now hH37 (n := 3) rfl).is) ?_
          refine guard_yes rfl rfl rfl ?_
          refine ops_y hH37 rfl rfl (yv_neq rfl rfl) ?_
          refine ops_y hH37 rfl rfl (yv_pick_f rfl rfl rfl) ?_
          refine ops_nil ?_
          refine thn_n ?_
          have hc39 : ¬ (¬ ((p.length : Int) = (js.length : Int))) := by omega
          refine cond_f rfl (not_decide_f hc39) ?_
          refine skip ?_
          refine thn_n ?_
          refine seq ?_
          refine region ?_
          refine ops_y hH37 rfl rfl (yv_move rfl) ?_
          refine ops_y hH37 rfl rfl (yv_move rfl) ?_
          have hev42 : Fn Try.prog 44 [v, p38].toArray _ _ := c44 (h0.now hH37 (n := 3) rfl) (Heap.rdw T.el23_encP hH37 (n := 0) rfl) (by omega) (by omega)
          simp only [hck, decide_true] at hev42
          refine op_fnV rfl rfl rfl hH37 (hev42) (fun w40 hH41 => ?_)
          refine ops_y hH41 rfl rfl (yv_move rfl) ?_
          refine ops_y hH41 rfl rfl (yv_extract rfl rfl) ?_
          refine ops_y hH41 rfl rfl (yv_extract rfl rfl) ?_
          refine ops_y hH41 rfl rfl (yv_assign rfl) ?_
          refine ops_y hH41 rfl rfl (yv_assign rfl) ?_
          refine ops_nil ?_
          refine thn_n ?_
          refine seq ?_
          refine region ?_
          refine ops_y hH41 rfl rfl (yv_move rfl) ?_
          refine ops_y hH41 rfl rfl (yv_move rfl) ?_
          have hev45 : Fn Try.prog 46 [p38].toArray _ _ := c46 (Heap.rdw T.el23_encP hH41 (n := 0) rfl) (by omega)
          simp only [hpn] at hev45
          refine op_fn rfl rfl rfl hH41 (hev45) (fun u46 w43 lo47 hi48 hH44 hv49 => ?_)
          obtain ⟨ob50, ot51, of52, hu, -⟩ := hv49
          subst hu
          have hH53 := Heap.rd3 hH44 (n := 0) rfl
          have hev56 : Fn Try.prog 32 [v, (.agg #[ob50, ot51, of52])].toArray _ _ := c32 (h0.now hH53 (n := 4) rfl) ((Heap.getRd3 hH53 (n := 0) rfl).1) ((Heap.getRd3 hH53 (n := 0) rfl).2.1) ((Heap.getRd3 hH53 (n := 0) rfl).2.2) (by omega) (by omega) (by omega) (by omega)
          simp only [hpy3] at hev56
          refine op_fn rfl rfl rfl hH53 (hev56) (fun u57 w54 lo58 hi59 hH55 hv60 => ?_)
          obtain ⟨p62, hu, -⟩ := hv60
          subst hu
          have hH61 := Heap.tup2 hH55 (n := 0) rfl
          refine ops_y hH61 rfl rfl (yv_move rfl) ?_
          refine ops_y hH61 rfl rfl (yv_extract rfl rfl) ?_
          refine ops_y hH61 rfl rfl (yv_extract rfl rfl) ?_
          refine ops_y hH61 rfl rfl (yv_assign rfl) ?_
          refine ops_y hH61 rfl rfl (yv_assign rfl) ?_
          refine ops_nil ?_
          refine thn_n ?_
          refine seq ?_
          refine seq ?_
          refine region ?_
          refine ops_y hH61 rfl rfl (yv_move rfl) ?_
          refine ops_y hH61 rfl rfl (yv_not rfl) ?_
          refine ops_y hH61 rfl rfl (yv_move rfl) ?_
          refine guard_yes rfl rfl rfl ?_
          refine ops_y hH61 rfl rfl (yv_move rfl) ?_
          refine guard_yes rfl rfl rfl ?_
          refine ops_y hH61 rfl rfl (yv_castB rfl (yv_neq rfl rfl)) ?_
          refine ops_y hH61 rfl rfl (yv_pick_f rfl rfl rfl) ?_
          refine ops_y hH61 rfl rfl (yv_move rfl) ?_
          refine guard_yes rfl rfl rfl ?_
          refine ops_y hH61 rfl rfl (yv_move rfl) ?_
          refine guard_yes rfl rfl rfl ?_
          refine ops_y hH61 rfl rfl (yv_move rfl) ?_
          refine guard_yes rfl rfl rfl ?_
          refine op_fnV rfl rfl rfl hH61 (c36 (Heap.rdw T.el23_encP hH61 (n := 2) rfl) (Heap.rdw T.el23_encP hH61 (n := 0) rfl) (by omega) (by omega)) (fun w63 hH64 => ?_)
          refine guard_yes rfl rfl rfl ?_
          refine ops_y hH64 rfl rfl (yv_castB (bnot_f (decide_eq_true rfl)) (yv_not rfl)) ?_
          refine ops_y hH64 rfl rfl (yv_pick_f rfl rfl rfl) ?_
          refine ops_nil ?_
          refine thn_n ?_
          refine cond_f rfl rfl ?_
          refine skip ?_
          refine thn_n ?_
          refine seq ?_
          refine seq ?_
          refine region ?_
          refine ops_y hH64 rfl rfl (yv_assign rfl) ?_
          refine ops_nil ?_
          refine thn_n ?_
          refine block ?_
          refine loop (S := Nat) (fun wq => [(19, (.int .i64 (wq : Int))), (0, v), (7, u), (12, (.pointer (some ⟨b25, 0, none⟩))), (13, p38)]) (fun wq w1 => Heap [ow lo58 hi59 73 2 encP p62 p, ⟨lo47, hi48, Rd3 ob50 ot51 of52 (S.rowB p 0 js.length) (S.rowB p 1 js.length) (S.firstsOf p js.length)⟩, ow lo34 hi35 73 2 encP p38 p, bx b25 41 [ob21, ot22, of23], ⟨lo18, hi19, Rd3 ob21 ot22 of23 (S.rowB ps 0 js.length) (S.rowB ps 1 js.length) (S.firstsOf ps js.length)⟩, base w] w1 ∧ wq ≤ 2 * js.length) (fun wq => 2 * js.length - wq) (0) (Sub.cons rfl (Sub.cons rfl (Sub.cons rfl (Sub.cons rfl (Sub.cons rfl (Sub.nil _)))))) ?_ ?_
          · exact ⟨hH64, by omega⟩
          · rintro wq w65 ⟨hH66, hwq⟩
            show Holds _ _ _ _ _ [(19, (.int .i64 (wq : Int))), (0, v), (7, u), (12, (.pointer (some ⟨b25, 0, none⟩))), (13, p38)] _ _
            refine seq ?_
            refine seq ?_
            refine region ?_
            refine ops_y hH66 rfl rfl (yv_move rfl) ?_
            refine ops_y hH66 rfl rfl (yv_move rfl) ?_
            refine ops_y hH66 rfl rfl (yv_len T.sl22 rfl (h0.now hH66 (n := 5) rfl).is) ?_
            refine ops_y hH66 rfl rfl (yv_mul rfl rfl (by omega)) ?_
            refine ops_y hH66 rfl rfl (yv_lss rfl rfl) ?_
            refine ops_nil ?_
            refine thn_n ?_
            by_cases hc67 : (wq : Int) < (2 * (js.length : Int))
            · skip
              refine cond_t rfl (decide_eq_true hc67) ?_
              refine skip ?_
              refine thn_n ?_
              refine seq ?_
              refine block ?_
              refine seq ?_
              refine region ?_
              refine ops_y hH66 rfl rfl (yv_move rfl) ?_
              refine ops_y hH66 rfl rfl (yv_move rfl) ?_
              refine op_fnV rfl rfl rfl hH66 (c47 (Heap.rdw T.el23_encP hH66 (n := 2) rfl) (by omega) (by omega) (by omega)) (fun w68 hH69 => ?_)
              refine ops_y hH69 rfl rfl (yv_assign rfl) ?_
              refine ops_nil ?_
              refine thn_n ?_
              refine seq ?_
              refine seq ?_
              have hlew := hle wq (by omega)
              have hbw := hps.bd hj (w := wq) (by omega)
              refine region ?_
              refine ops_y hH69 rfl rfl (yv_move rfl) ?_
              refine ops_y hH69 rfl rfl (yv_move rfl) ?_
              refine ops_y hH69 rfl rfl (yv_move rfl) ?_
              refine op_fnV rfl rfl rfl hH69 (c47 (h1.now hH69 (n := 5) rfl) (by omega) (by omega) (by omega)) (fun w70 hH71 => ?_)
              refine ops_y hH71 rfl rfl (yv_gtr rfl rfl) ?_
              refine ops_nil ?_
              refine thn_n ?_
              have hc72 : ¬ ((S.at2 ps (wq : Int)) < (S.at2 p (wq : Int))) := by omega
              refine cond_f rfl (decide_eq_false hc72) ?_
              refine skip ?_
              refine thn_n ?_
              refine seq ?_
              refine region ?_
              refine ops_y hH71 rfl rfl (yv_move rfl) ?_
              refine ops_y hH71 rfl rfl (yv_eql rfl rfl) ?_
              refine ops_y hH71 rfl rfl (yv_assign rfl) ?_
              refine ops_nil ?_
              refine thn_n ?_
              refine seq ?_
              refine seq ?_
              refine region ?_
              refine ops_y hH71 rfl rfl (yv_assign rfl) ?_
              refine ops_nil ?_
              refine thn_n ?_
              refine block ?_
              refine loop (S := Nat × Bool) (fun (vq, tt) => [(22, (.int .i64 (vq : Int))), (21, (.bool tt)), (0, v), (7, u), (12, (.pointer (some ⟨b25, 0, none⟩))), (13, p38), (19, (.int .i64 (wq : Int))), (20, (.int .i64 (S.at2 p (wq : Int))))]) (fun (vq, tt) w1 => Heap [ow lo58 hi59 73 2 encP p62 p, ⟨lo47, hi48, Rd3 ob50 ot51 of52 (S.rowB p 0 js.length) (S.rowB p 1 js.length) (S.firstsOf p js.length)⟩, ow lo34 hi35 73 2 encP p38 p, bx b25 41 [ob21, ot22, of23], ⟨lo18, hi19, Rd3 ob21 ot22 of23 (S.rowB ps 0 js.length) (S.rowB ps 1 js.length) (S.firstsOf ps js.length)⟩, base w] w1 ∧ vq ≤ 2 * js.length ∧ (tt = true ↔ S.at2 p (wq : Int) = 0 ∨ ∃ v, v < vq ∧ S.Waits (S.rowB ps 0 js.length) (S.rowB ps 1 js.length) (S.firstsOf ps js.length) (wq : Int) (v : Int) ∧ S.at2 p (v : Int) + S.at2 js (v : Int) = S.at2 p (wq : Int))) (fun (vq, tt) => 2 * js.length - vq) (0, (decide (S.at2 p (wq : Int) = 0))) (Sub.cons rfl (Sub.cons rfl (Sub.cons rfl (Sub.cons rfl (Sub.cons rfl (Sub.cons rfl (Sub.cons rfl (Sub.cons rfl (Sub.nil _))))))))) ?_ ?_
              · exact ⟨hH71, by omega, by simp⟩
              · rintro ⟨vq, tt⟩ w73 ⟨hH74, hvq, hinv⟩
                show Holds _ _ _ _ _ [(22, (.int .i64 (vq : Int))), (21, (.bool tt)), (0, v), (7, u), (12, (.pointer (some ⟨b25, 0, none⟩))), (13, p38), (19, (.int .i64 (wq : Int))), (20, (.int .i64 (S.at2 p (wq : Int))))] _ _
                refine seq ?_
                refine seq ?_
                refine region ?_
                refine ops_y hH74 rfl rfl (yv_move rfl) ?_
                refine ops_y hH74 rfl rfl (yv_move rfl) ?_
                refine ops_y hH74 rfl rfl (yv_len T.sl22 rfl (h0.now hH74 (n := 5) rfl).is) ?_
                refine ops_y hH74 rfl rfl (yv_mul rfl rfl (by omega)) ?_
                refine ops_y hH74 rfl rfl (yv_lss rfl rfl) ?_
                refine ops_nil ?_
                refine thn_n ?_
                by_cases hc75 : (vq : Int) < (2 * (js.length : Int))
                · skip
                  refine cond_t rfl (decide_eq_true hc75) ?_
                  refine skip ?_
                  refine thn_n ?_
                  refine seq ?_
                  refine block ?_
                  have hbv := hps.bd hj (w := vq) (by omega)
                  have hmv := hj.at2 (w := (vq : Int)) (by omega) (by omega)
                  refine region ?_
                  refine ops_y hH74 rfl rfl (yv_move rfl) ?_
                  refine ops_y hH74 rfl rfl (yv_move rfl) ?_
                  by_cases hc76 : tt = true
                  · skip
                    refine guard_no rfl rfl hc76 rfl ?_
                    refine guard_no rfl rfl hc76 rfl ?_
                    refine guard_no rfl rfl hc76 rfl ?_
                    refine guard_no rfl rfl hc76 rfl ?_
                    refine guard_no rfl rfl hc76 rfl ?_
                    refine guard_none rfl rfl rfl ?_
                    refine guard_none rfl rfl rfl ?_
                    refine guard_none rfl rfl rfl ?_
                    refine guard_none rfl rfl rfl ?_
                    refine guard_none rfl rfl rfl ?_
                    refine guard_none rfl rfl rfl ?_
                    refine guard_none rfl rfl rfl ?_
                    refine guard_none rfl rfl rfl ?_
                    refine guard_none rfl rfl rfl ?_
                    refine guard_no rfl rfl hc76 rfl ?_
                    refine ops_y hH74 rfl rfl (yv_pick_t rfl hc76 rfl) ?_
                    refine ops_y hH74 rfl rfl (yv_assign rfl) ?_
                    refine ops_nil ?_
                    refine blk_n ?_
                    refine thn_n ?_
                    refine region ?_
                    refine ops_y hH74 rfl rfl (yv_move rfl) ?_
                    refine ops_y hH74 rfl rfl (yv_add rfl rfl (by omega)) ?_
                    refine ops_y hH74 rfl rfl (yv_assign rfl) ?_
                    refine ops_nil ?_
                    refine lp_n (vq + 1, true) (Sub.cons rfl (Sub.cons rfl (Sub.cons rfl (Sub.cons rfl (Sub.cons rfl (Sub.cons rfl (Sub.cons rfl (Sub.cons rfl (Sub.nil _))))))))) ?_ ?_
                    · exact ⟨hH74, by omega, S.tight_snoc hinv (by first | exact ⟨fun _ => .inl ‹_›, fun _ => rfl⟩ | exact ⟨fun h => .inr ⟨‹_›, of_decide_eq_true h⟩, fun h => h.elim (fun h => absurd h ‹_›) (fun h => decide_eq_true h.2)⟩ | exact ⟨fun h => (by cases h), fun h => h.elim (fun h => absurd h ‹_›) (fun h => absurd h.1 ‹_›)⟩)⟩
                    · first | (dsimp only; omega) | (show _ < _; omega)
                  · skip
                    refine guard_yes rfl rfl (Bool.eq_false_iff.2 hc76) ?_
                    refine ops_y hH74 rfl rfl (yv_loadA (cs := [ob21, ot22, of23]) T.agg41 rfl rfl (fun _ hw => Heap.cellsw hw (n := 3) rfl (k := 0) rfl)) ?_
                    refine guard_yes rfl rfl (Bool.eq_false_iff.2 hc76) ?_
                    refine ops_y hH74 rfl rfl (yv_move rfl) ?_
                    refine guard_yes rfl rfl (Bool.eq_false_iff.2 hc76) ?_
                    refine ops_y hH74 rfl rfl (yv_move rfl) ?_
                    refine guard_yes rfl rfl (Bool.eq_false_iff.2 hc76) ?_
                    refine op_fnV rfl rfl rfl hH74 (c48 ((Heap.getRd3 hH74 (n := 4) rfl).1) ((Heap.getRd3 hH74 (n := 4) rfl).2.1) ((Heap.getRd3 hH74 (n := 4) rfl).2.2) (by omega) (by omega) (by omega) (by omega) (by omega) (by omega) (by omega)) (fun w77 hH78 => ?_)
                    refine guard_yes rfl rfl (Bool.eq_false_iff.2 hc76) ?_
                    refine ops_y hH78 rfl rfl (yv_move rfl) ?_
                    by_cases hc79 : S.Waits (S.rowB ps 0 js.length) (S.rowB ps 1 js.length) (S.firstsOf ps js.length) (wq : Int) (vq : Int)
                    · skip
                      refine guard_yes rfl rfl (decide_eq_true hc79) ?_
                      refine ops_y hH78 rfl rfl (yv_move rfl) ?_
                      refine guard_yes rfl rfl (decide_eq_true hc79) ?_
                      refine ops_y hH78 rfl rfl (yv_move rfl) ?_
                      refine guard_yes rfl rfl (decide_eq_true hc79) ?_
                      refine op_fnV rfl rfl rfl hH78 (c47 (Heap.rdw T.el23_encP hH78 (n := 2) rfl) (by omega) (by omega) (by omega)) (fun w80 hH81 => ?_)
                      refine guard_yes rfl rfl (decide_eq_true hc79) ?_
                      refine ops_y hH81 rfl rfl (yv_move rfl) ?_
                      refine guard_yes rfl rfl (decide_eq_true hc79) ?_
                      refine ops_y hH81 rfl rfl (yv_move rfl) ?_
                      refine guard_yes rfl rfl (decide_eq_true hc79) ?_
                      refine op_fnV rfl rfl rfl hH81 (c49 (h0.now hH81 (n := 5) rfl) (by omega) (by omega) (by omega)) (fun w82 hH83 => ?_)
                      refine guard_yes rfl rfl (decide_eq_true hc79) ?_
                      refine ops_y hH83 rfl rfl (yv_add rfl rfl (by omega)) ?_
                      refine guard_yes rfl rfl (decide_eq_true hc79) ?_
                      refine ops_y hH83 rfl rfl (yv_move rfl) ?_
                      refine guard_yes rfl rfl (decide_eq_true hc79) ?_
                      refine ops_y hH83 rfl rfl (yv_eql rfl rfl) ?_
                      refine guard_yes rfl rfl (Bool.eq_false_iff.2 hc76) ?_
                      refine ops_y hH83 rfl rfl (yv_pick_t rfl (decide_eq_true hc79) rfl) ?_
                      refine ops_y hH83 rfl rfl (yv_pick_f rfl (Bool.eq_false_iff.2 hc76) rfl) ?_
                      refine ops_y hH83 rfl rfl (yv_assign rfl) ?_
                      refine ops_nil ?_
                      refine blk_n ?_
                      refine thn_n ?_
                      refine region ?_
                      refine ops_y hH83 rfl rfl (yv_move rfl) ?_
                      refine ops_y hH83 rfl rfl (yv_add rfl rfl (by omega)) ?_
                      refine ops_y hH83 rfl rfl (yv_assign rfl) ?_
                      refine ops_nil ?_
                      refine lp_n (vq + 1, decide (((S.at2 p (vq : Int)) + (S.at2 js (vq : Int))) = (S.at2 p (wq : Int)))) (Sub.cons rfl (Sub.cons rfl (Sub.cons rfl (Sub.cons rfl (Sub.cons rfl (Sub.cons rfl (Sub.cons rfl (Sub.cons rfl (Sub.nil _))))))))) ?_ ?_
                      · exact ⟨hH83, by omega, S.tight_snoc hinv (by first | exact ⟨fun _ => .inl ‹_›, fun _ => rfl⟩ | exact ⟨fun h => .inr ⟨‹_›, of_decide_eq_true h⟩, fun h => h.elim (fun h => absurd h ‹_›) (fun h => decide_eq_true h.2)⟩ | exact ⟨fun h => (by cases h), fun h => h.elim (fun h => absurd h ‹_›) (fun h => absurd h.1 ‹_›)⟩)⟩
                      · first | (dsimp only; omega) | (show _ < _; omega)
                    · skip
                      refine guard_no rfl rfl (decide_eq_false hc79) rfl ?_
                      refine guard_no rfl rfl (decide_eq_false hc79) rfl ?_
                      refine guard_no rfl rfl (decide_eq_false hc79) rfl ?_
                      refine guard_no rfl rfl (decide_eq_false hc79) rfl ?_
                      refine guard_no rfl rfl (decide_eq_false hc79) rfl ?_
                      refine guard_no rfl rfl (decide_eq_false hc79) rfl ?_
                      refine guard_no rfl rfl (decide_eq_false hc79) rfl ?_
                      refine guard_no rfl rfl (decide_eq_false hc79) rfl ?_
                      refine guard_no rfl rfl (decide_eq_false hc79) rfl ?_
                      refine guard_yes rfl rfl (Bool.eq_false_iff.2 hc76) ?_
                      refine ops_y hH78 rfl rfl (yv_pick_f rfl (decide_eq_false hc79) rfl) ?_
                      refine ops_y hH78 rfl rfl (yv_pick_f rfl (Bool.eq_false_iff.2 hc76) rfl) ?_
                      refine ops_y hH78 rfl rfl (yv_assign rfl) ?_
                      refine ops_nil ?_
                      refine blk_n ?_
                      refine thn_n ?_
                      refine region ?_
                      refine ops_y hH78 rfl rfl (yv_move rfl) ?_
                      refine ops_y hH78 rfl rfl (yv_add rfl rfl (by omega)) ?_
                      refine ops_y hH78 rfl rfl (yv_assign rfl) ?_
                      refine ops_nil ?_
                      refine lp_n (vq + 1, false) (Sub.cons rfl (Sub.cons rfl (Sub.cons rfl (Sub.cons rfl (Sub.cons rfl (Sub.cons rfl (Sub.cons rfl (Sub.cons rfl (Sub.nil _))))))))) ?_ ?_
                      · exact ⟨hH78, by omega, S.tight_snoc hinv (by first | exact ⟨fun _ => .inl ‹_›, fun _ => rfl⟩ | exact ⟨fun h => .inr ⟨‹_›, of_decide_eq_true h⟩, fun h => h.elim (fun h => absurd h ‹_›) (fun h => decide_eq_true h.2)⟩ | exact ⟨fun h => (by cases h), fun h => h.elim (fun h => absurd h ‹_›) (fun h => absurd h.1 ‹_›)⟩)⟩
                      · first | (dsimp only; omega) | (show _ < _; omega)
                · skip
                  have htt : tt = true := hinv.2 ((hps.2 wq (by omega)).2.2.imp id (fun ⟨v, a, b, c⟩ => ⟨v, by omega, b, c.symm⟩))
                  refine cond_f rfl (decide_eq_false hc75) ?_
                  refine exit ?_
                  refine thn_x ?_
                  refine lp_x ?_
                  refine blk_here ?_
                  refine thn_n ?_
                  refine seq ?_
                  refine region ?_
                  refine ops_y hH74 rfl rfl (yv_move rfl) ?_
                  refine ops_y hH74 rfl rfl (yv_not rfl) ?_
                  refine ops_nil ?_
                  refine thn_n ?_
                  have hc84 : ¬ ((!tt) = true) := by rw [htt]; simp
                  refine cond_f rfl (Bool.eq_false_iff.2 hc84) ?_
                  refine skip ?_
                  refine blk_n ?_
                  refine thn_n ?_
                  refine region ?_
                  refine ops_y hH74 rfl rfl (yv_move rfl) ?_
                  refine ops_y hH74 rfl rfl (yv_add rfl rfl (by omega)) ?_
                  refine ops_y hH74 rfl rfl (yv_assign rfl) ?_
                  refine ops_nil ?_
                  refine lp_n (wq + 1) (Sub.cons rfl (Sub.cons rfl (Sub.cons rfl (Sub.cons rfl (Sub.cons rfl (Sub.nil _)))))) ?_ ?_
                  · exact ⟨hH74, by omega⟩
                  · first | (dsimp only; omega) | (show _ < _; omega)
            · skip
              refine cond_f rfl (decide_eq_false hc67) ?_
              refine exit ?_
              refine thn_x ?_
              refine lp_x ?_
              refine blk_here ?_
              refine thn_n ?_
              refine seq ?_
              refine region ?_
              refine op_fnV rfl rfl rfl hH66 (c17) (fun w85 hH86 => ?_)
              refine ops_y hH86 rfl rfl (yv_assign rfl) ?_
              refine ops_nil ?_
              refine thn_n ?_
              refine ret ?_
              have hH87 := (hH86.sub (List.Sublist.cons _ (List.Sublist.cons _ (List.Sublist.cons _ (List.Sublist.cons _ (List.Sublist.cons _ (List.Sublist.refl _)))))))
              refine fin hH87 (fun w' hf => (res1 rfl (show RV _ _ _ (.tmp 6) _ from rfl))) (fun w' hf => ?_)
              rfl
        · skip
          have hncp : ¬ (S.checkPlan js ps).2 = 0 := ‹_›
          refine region ?_
          refine ops_y hH11 rfl rfl (yv_move rfl) ?_
          refine ops_y hH11 rfl rfl (yv_neq rfl rfl) ?_
          refine ops_nil ?_
          refine thn_n ?_
          have hc88 : ¬ (((S.checkPlan js ps).2) = 0) := hncp
          refine cond_t rfl (not_decide_t hc88) ?_
          refine seq ?_
          by_cases hc89 : ∃ p, S.SolP js (S.ordB bs js.length) (S.ordU bs js.length) (S.ordF bs js.length) p
          · skip
            obtain ⟨q, hsq⟩ := ‹∃ p, S.SolP js (S.ordB bs js.length) (S.ordU bs js.length) (S.ordF bs js.length) p›
            have hsq := hsq
            have hpo := S.playOf_some hj hsq
            have hgl := hsq.1
            have hgT := hsq.allT hj
            have hgR := hsq.right hj hO
            refine region ?_
            refine ops_y hH11 rfl rfl (yv_move rfl) ?_
            refine ops_y hH11 rfl rfl (yv_move rfl) ?_
            refine ops_y hH11 rfl rfl (yv_len T.sl22 rfl (h0.now hH11 (n := 0) rfl).is) ?_
            refine ops_y hH11 rfl rfl (yv_move rfl) ?_
            refine op_fn rfl rfl rfl hH11 (c43 (n := js.length) ((hby.now hH11 (n := 0) rfl)) (by omega) hbb (by omega)) (fun u92 w90 lo93 hi94 hH91 hv95 => ?_)
            obtain ⟨ob96, ot97, of98, hu, -⟩ := hv95
            subst hu
            have hH99 := Heap.rd3 hH91 (n := 0) rfl
            have hev102 : Fn Try.prog 45 [v, (.agg #[ob96, ot97, of98])].toArray _ _ := c45 (h0.now hH99 (n := 1) rfl) ((Heap.getRd3 hH99 (n := 0) rfl).1) ((Heap.getRd3 hH99 (n := 0) rfl).2.1) ((Heap.getRd3 hH99 (n := 0) rfl).2.2) hj hO
            simp only [hpo, Option.getD_some, Option.isSome_some] at hev102
            refine op_fn rfl rfl rfl hH99 (hev102) (fun u103 w100 lo104 hi105 hH101 hv106 => ?_)
            obtain ⟨p108, hu, -⟩ := hv106
            subst hu
            have hH107 := Heap.tup2 hH101 (n := 0) rfl
            refine ops_y hH107 rfl rfl (yv_move rfl) ?_
            refine ops_y hH107 rfl rfl (yv_extract rfl rfl) ?_
            refine ops_y hH107 rfl rfl (yv_extract rfl rfl) ?_
            refine ops_y hH107 rfl rfl (yv_assign rfl) ?_
            refine ops_y hH107 rfl rfl (yv_assign rfl) ?_
            refine ops_nil ?_
            refine thn_n ?_
            refine seq ?_
            refine seq ?_
            refine region ?_
            refine ops_y hH107 rfl rfl (yv_move rfl) ?_
            refine ops_y hH107 rfl rfl (yv_not rfl) ?_
            refine ops_nil ?_
            refine thn_n ?_
            refine cond_f rfl rfl ?_
            refine skip ?_
            refine thn_n ?_
            refine region ?_
            refine ops_y hH107 rfl rfl (yv_move rfl) ?_
            refine ops_y hH107 rfl rfl (yv_assign rfl) ?_
            refine ops_nil ?_
            refine thn_n ?_
            refine seq ?_
            obtain ⟨p, hps, hle⟩ := S.early_ok hj hgT hgl hgR
            have hO2 := S.ordOf_ok q js.length
            have hco2 := S.checkOrder_iff.2 ⟨hj, hO2⟩
            have hpy2 := (S.play_yes hj hco2 hps).1
            have hpn := hps.1
            have hck := hps.check hj hO2
            have hag := S.again_ok hj hO2 hps
            have hO3 := S.ordOf_ok p js.length
            have hco3 := S.checkOrder_iff.2 ⟨hj, hO3⟩
            have hpy3 := (S.play_yes hj hco3 hag).1
            have hl2B : (S.rowB q 0 js.length).length = js.length := hO2.1
            have hl2U : (S.rowB q 1 js.length).length = js.length := hO2.2.1
            have hl2F : (S.firstsOf q js.length).length = js.length := hO2.2.2.1
            have hl3B : (S.rowB p 0 js.length).length = js.length := hO3.1
            have hl3U : (S.rowB p 1 js.length).length = js.length := hO3.2.1
            have hl3F : (S.firstsOf p js.length).length = js.length := hO3.2.2.1
            refine region ?_
            refine ops_y hH107 rfl rfl (yv_move rfl) ?_
            have hev111 : Fn Try.prog 46 [p108].toArray _ _ := c46 (Heap.rdw T.el23_encP hH107 (n := 0) rfl) (by omega)
            simp only [hgl] at hev111
            refine op_fn rfl rfl rfl hH107 (hev111) (fun u112 w109 lo113 hi114 hH110 hv115 => ?_)
            obtain ⟨ob116, ot117, of118, hu, -⟩ := hv115
            subst hu
            have hH119 := Heap.rd3 hH110 (n := 0) rfl
            refine op_alloc (z := (.agg #[(.slice none 0 0), (.slice none 0 0), (.slice none 0 0)])) (us := [(.slice none 0 0), (.slice none 0 0), (.slice none 0 0)]) (fun _ => by kernel_rfl) rfl rfl hH119 (fun b120 w121 hH122 => ?_)
            refine op_store (n := 0) (j := 0) (us := [ob116, ot117, of118]) rfl rfl hH122 rfl T.sz41 rfl rfl rfl (all_one (SliceIs.one1 ((Heap.getRd3 hH122 (n := 1) rfl).1).is) (all_one (SliceIs.one1 ((Heap.getRd3 hH122 (n := 1) rfl).2.1).is) (all_one (SliceIs.one1 ((Heap.getRd3 hH122 (n := 1) rfl).2.2).is) rfl))) (fun w123 hH124 => ?_)
            refine ops_nil ?_
            refine thn_n ?_
            refine seq ?_
            refine region ?_
            refine ops_y hH124 rfl rfl (yv_move rfl) ?_
            refine ops_y hH124 rfl rfl (yv_loadA (cs := [ob116, ot117, of118]) T.agg41 rfl rfl (fun _ hw => Heap.cellsw hw (n := 0) rfl (k := 0) rfl)) ?_
            have hev127 : Fn Try.prog 32 [v, (.agg #[ob116, ot117, of118])].toArray _ _ := c32 (h0.now hH124 (n := 4) rfl) ((Heap.getRd3 hH124 (n := 1) rfl).1) ((Heap.getRd3 hH124 (n := 1) rfl).2.1) ((Heap.getRd3 hH124 (n := 1) rfl).2.2) (by omega) (by omega) (by omega) (by omega)
            simp only [hpy2] at hev127
            refine op_fn rfl rfl rfl hH124 (hev127) (fun u128 w125 lo129 hi130 hH126 hv131 => ?_)
            obtain ⟨p133, hu, -⟩ := hv131
            subst hu
            have hH132 := Heap.tup2 hH126 (n := 0) rfl
            refine ops_y hH132 rfl rfl (yv_move rfl) ?_
            refine ops_y hH132 rfl rfl (yv_extract rfl rfl) ?_
            refine ops_y hH132 rfl rfl (yv_extract rfl rfl) ?_
            refine ops_y hH132 rfl rfl (yv_assign rfl) ?_
            refine ops_y hH132 rfl rfl (yv_assign rfl) ?_
            refine ops_nil ?_
            refine thn_n ?_
            refine seq ?_
            refine seq ?_
            refine region ?_
            refine ops_y hH132 rfl rfl (yv_move rfl) ?_
            refine ops_y hH132 rfl rfl (yv_castB rfl (yv_neq rfl rfl)) ?_
            refine ops_y hH132 rfl rfl (yv_move rfl) ?_
            refine guard_yes rfl rfl rfl ?_
            refine ops_y hH132 rfl rfl (yv_move rfl) ?_
            refine guard_yes rfl rfl rfl ?_
            refine ops_y hH132 rfl rfl (yv_len T.sl23 rfl (Heap.rdw T.el23_encP hH132 (n := 0) rfl).is) ?_
            refine guard_yes rfl rfl rfl ?_
            refine ops_y hH132 rfl rfl (yv_move rfl) ?_
            refine guard_yes rfl rfl rfl ?_
            refine ops_y hH132 rfl rfl (yv_len T.sl22 rfl (h0.now hH132 (n := 5) rfl).is) ?_
            refine guard_yes rfl rfl rfl ?_
            refine ops_y hH132 rfl rfl (yv_neq rfl rfl) ?_
            refine ops_y hH132 rfl rfl (yv_pick_f rfl rfl rfl) ?_
            refine ops_nil ?_
            refine thn_n ?_
            have hc134 : ¬ (¬ ((p.length : Int) = (js.length : Int))) := by omega
            refine cond_f rfl (not_decide_f hc134) ?_
            refine skip ?_
            refine thn_n ?_
            refine seq ?_
            refine region ?_
            refine ops_y hH132 rfl rfl (yv_move rfl) ?_
            refine ops_y hH132 rfl rfl (yv_move rfl) ?_
            have hev137 : Fn Try.prog 44 [v, p133].toArray _ _ := c44 (h0.now hH132 (n := 5) rfl) (Heap.rdw T.el23_encP hH132 (n := 0) rfl) (by omega) (by omega)
            simp only [hck, decide_true] at hev137
            refine op_fnV rfl rfl rfl hH132 (hev137) (fun w135 hH136 => ?_)
            refine ops_y hH136 rfl rfl (yv_move rfl) ?_
            refine ops_y hH136 rfl rfl (yv_extract rfl rfl) ?_
            refine ops_y hH136 rfl rfl (yv_extract rfl rfl) ?_
            refine ops_y hH136 rfl rfl (yv_assign rfl) ?_
            refine ops_y hH136 rfl rfl (yv_assign rfl) ?_
            refine ops_nil ?_
            refine thn_n ?_
            refine seq ?_
            refine region ?_
            refine ops_y hH136 rfl rfl (yv_move rfl) ?_
            refine ops_y hH136 rfl rfl (yv_move rfl) ?_
            have hev140 : Fn Try.prog 46 [p133].toArray _ _ := c46 (Heap.rdw T.el23_encP hH136 (n := 0) rfl) (by omega)
            simp only [hpn] at hev140
            refine op_fn rfl rfl rfl hH136 (hev140) (fun u141 w138 lo142 hi143 hH139 hv144 => ?_)
            obtain ⟨ob145, ot146, of147, hu, -⟩ := hv144
            subst hu
            have hH148 := Heap.rd3 hH139 (n := 0) rfl
            have hev151 : Fn Try.prog 32 [v, (.agg #[ob145, ot146, of147])].toArray _ _ := c32 (h0.now hH148 (n := 6) rfl) ((Heap.getRd3 hH148 (n := 0) rfl).1) ((Heap.getRd3 hH148 (n := 0) rfl).2.1) ((Heap.getRd3 hH148 (n := 0) rfl).2.2) (by omega) (by omega) (by omega) (by omega)
            simp only [hpy3] at hev151
            refine op_fn rfl rfl rfl hH148 (hev151) (fun u152 w149 lo153 hi154 hH150 hv155 => ?_)
            obtain ⟨p157, hu, -⟩ := hv155
            subst hu
            have hH156 := Heap.tup2 hH150 (n := 0) rfl
            refine ops_y hH156 rfl rfl (yv_move rfl) ?_
            refine ops_y hH156 rfl rfl (yv_extract rfl rfl) ?_
            refine ops_y hH156 rfl rfl (yv_extract rfl rfl) ?_
            refine ops_y hH156 rfl rfl (yv_assign rfl) ?_
            refine ops_y hH156 rfl rfl (yv_assign rfl) ?_
            refine ops_nil ?_
            refine thn_n ?_
            refine seq ?_
            refine seq ?_
            refine region ?_
            refine ops_y hH156 rfl rfl (yv_move rfl) ?_
            refine ops_y hH156 rfl rfl (yv_not rfl) ?_
            refine ops_y hH156 rfl rfl (yv_move rfl) ?_
            refine guard_yes rfl rfl rfl ?_
            refine ops_y hH156 rfl rfl (yv_move rfl) ?_
            refine guard_yes rfl rfl rfl ?_
            refine ops_y hH156 rfl rfl (yv_castB rfl (yv_neq rfl rfl)) ?_
            refine ops_y hH156 rfl rfl (yv_pick_f rfl rfl rfl) ?_
            refine ops_y hH156 rfl rfl (yv_move rfl) ?_
            refine guard_yes rfl rfl rfl ?_
            refine ops_y hH156 rfl rfl (yv_move rfl) ?_
            refine guard_yes rfl rfl rfl ?_
            refine ops_y hH156 rfl rfl (yv_move rfl) ?_
            refine guard_yes rfl rfl rfl ?_
            refine op_fnV rfl rfl rfl hH156 (c36 (Heap.rdw T.el23_encP hH156 (n := 2) rfl) (Heap.rdw T.el23_encP hH156 (n := 0) rfl) (by omega) (by omega)) (fun w158 hH159 => ?_)
            refine guard_yes rfl rfl rfl ?_
            refine ops_y hH159 rfl rfl (yv_castB (bnot_f (decide_eq_true rfl)) (yv_not rfl)) ?_
            refine ops_y hH159 rfl rfl (yv_pick_f rfl rfl rfl) ?_
            refine ops_nil ?_
            refine thn_n ?_
            refine cond_f rfl rfl ?_
            refine skip ?_
            refine thn_n ?_
            refine seq ?_
            refine seq ?_
            refine region ?_
            refine ops_y hH159 rfl rfl (yv_assign rfl) ?_
            refine ops_nil ?_
            refine thn_n ?_
            refine block ?_
            refine loop (S := Nat) (fun wq => [(19, (.int .i64 (wq : Int))), (0, v), (7, p108), (12, (.pointer (some ⟨b120, 0, none⟩))), (13, p133)]) (fun wq w1 => Heap [ow lo153 hi154 73 2 encP p157 p, ⟨lo142, hi143, Rd3 ob145 ot146 of147 (S.rowB p 0 js.length) (S.rowB p 1 js.length) (S.firstsOf p js.length)⟩, ow lo129 hi130 73 2 encP p133 p, bx b120 41 [ob116, ot117, of118], ⟨lo113, hi114, Rd3 ob116 ot117 of118 (S.rowB q 0 js.length) (S.rowB q 1 js.length) (S.firstsOf q js.length)⟩, ow lo104 hi105 73 2 encP p108 q, ⟨lo93, hi94, Rd3 ob96 ot97 of98 (S.ordB bs js.length) (S.ordU bs js.length) (S.ordF bs js.length)⟩, base w] w1 ∧ wq ≤ 2 * js.length) (fun wq => 2 * js.length - wq) (0) (Sub.cons rfl (Sub.cons rfl (Sub.cons rfl (Sub.cons rfl (Sub.cons rfl (Sub.nil _)))))) ?_ ?_
            · exact ⟨hH159, by omega⟩
            · rintro wq w160 ⟨hH161, hwq⟩
              show Holds _ _ _ _ _ [(19, (.int .i64 (wq : Int))), (0, v), (7, p108), (12, (.pointer (some ⟨b120, 0, none⟩))), (13, p133)] _ _
              refine seq ?_
              refine seq ?_
              refine region ?_
              refine ops_y hH161 rfl rfl (yv_move rfl) ?_
              refine ops_y hH161 rfl rfl (yv_move rfl) ?_
              refine ops_y hH161 rfl rfl (yv_len T.sl22 rfl (h0.now hH161 (n := 7) rfl).is) ?_
              refine ops_y hH161 rfl rfl (yv_mul rfl rfl (by omega)) ?_
              refine ops_y hH161 rfl rfl (yv_lss rfl rfl) ?_
              refine ops_nil ?_
              refine thn_n ?_
              by_cases hc162 : (wq : Int) < (2 * (js.length : Int))
              · skip
                refine cond_t rfl (decide_eq_true hc162) ?_
                refine skip ?_
                refine thn_n ?_
                refine seq ?_
                refine block ?_
                refine seq ?_
                refine region ?_
                refine ops_y hH161 rfl rfl (yv_move rfl) ?_
                refine ops_y hH161 rfl rfl (yv_move rfl) ?_
                refine op_fnV rfl rfl rfl hH161 (c47 (Heap.rdw T.el23_encP hH161 (n := 2) rfl) (by omega) (by omega) (by omega)) (fun w163 hH164 => ?_)
                refine ops_y hH164 rfl rfl (yv_assign rfl) ?_
                refine ops_nil ?_
                refine thn_n ?_
                refine seq ?_
                refine seq ?_
                have hlew := hle wq (by omega)
                have hbw := hps.bd hj (w := wq) (by omega)
                refine region ?_
                refine ops_y hH164 rfl rfl (yv_move rfl) ?_
                refine ops_y hH164 rfl rfl (yv_move rfl) ?_
                refine ops_y hH164 rfl rfl (yv_move rfl) ?_
                refine op_fnV rfl rfl rfl hH164 (c47 (Heap.rdw T.el23_encP hH164 (n := 5) rfl) (by omega) (by omega) (by omega)) (fun w165 hH166 => ?_)
                refine ops_y hH166 rfl rfl (yv_gtr rfl rfl) ?_
                refine ops_nil ?_
                refine thn_n ?_
                have hc167 : ¬ ((S.at2 q (wq : Int)) < (S.at2 p (wq : Int))) := by omega
                refine cond_f rfl (decide_eq_false hc167) ?_
                refine skip ?_
                refine thn_n ?_
                refine seq ?_
                refine region ?_
                refine ops_y hH166 rfl rfl (yv_move rfl) ?_
                refine ops_y hH166 rfl rfl (yv_eql rfl rfl) ?_
                refine ops_y hH166 rfl rfl (yv_assign rfl) ?_
                refine ops_nil ?_
                refine thn_n ?_
                refine seq ?_
                refine seq ?_
                refine region ?_
                refine ops_y hH166 rfl rfl (yv_assign rfl) ?_
                refine ops_nil ?_
                refine thn_n ?_
                refine block ?_
                refine loop (S := Nat × Bool) (fun (vq, tt) => [(22, (.int .i64 (vq : Int))), (21, (.bool tt)), (0, v), (7, p108), (12, (.pointer (some ⟨b120, 0, none⟩))), (13, p133), (19, (.int .i64 (wq : Int))), (20, (.int .i64 (S.at2 p (wq : Int))))]) (fun (vq, tt) w1 => Heap [ow lo153 hi154 73 2 encP p157 p, ⟨lo142, hi143, Rd3 ob145 ot146 of147 (S.rowB p 0 js.length) (S.rowB p 1 js.length) (S.firstsOf p js.length)⟩, ow lo129 hi130 73 2 encP p133 p, bx b120 41 [ob116, ot117, of118], ⟨lo113, hi114, Rd3 ob116 ot117 of118 (S.rowB q 0 js.length) (S.rowB q 1 js.length) (S.firstsOf q js.length)⟩, ow lo104 hi105 73 2 encP p108 q, ⟨lo93, hi94, Rd3 ob96 ot97 of98 (S.ordB bs js.length) (S.ordU bs js.length) (S.ordF bs js.length)⟩, base w] w1 ∧ vq ≤ 2 * js.length ∧ (tt = true ↔ S.at2 p (wq : Int) = 0 ∨ ∃ v, v < vq ∧ S.Waits (S.rowB q 0 js.length) (S.rowB q 1 js.length) (S.firstsOf q js.length) (wq : Int) (v : Int) ∧ S.at2 p (v : Int) + S.at2 js (v : Int) = S.at2 p (wq : Int))) (fun (vq, tt) => 2 * js.length - vq) (0, (decide (S.at2 p (wq : Int) = 0))) (Sub.cons rfl (Sub.cons rfl (Sub.cons rfl (Sub.cons rfl (Sub.cons rfl (Sub.cons rfl (Sub.cons rfl (Sub.cons rfl (Sub.nil _))))))))) ?_ ?_
                · exact ⟨hH166, by omega, by simp⟩
                · rintro ⟨vq, tt⟩ w168 ⟨hH169, hvq, hinv⟩
                  show Holds _ _ _ _ _ [(22, (.int .i64 (vq : Int))), (21, (.bool tt)), (0, v), (7, p108), (12, (.pointer (some ⟨b120, 0, none⟩))), (13, p133), (19, (.int .i64 (wq : Int))), (20, (.int .i64 (S.at2 p (wq : Int))))] _ _
                  refine seq ?_
                  refine seq ?_
                  refine region ?_
                  refine ops_y hH169 rfl rfl (yv_move rfl) ?_
                  refine ops_y hH169 rfl rfl (yv_move rfl) ?_
                  refine ops_y hH169 rfl rfl (yv_len T.sl22 rfl (h0.now hH169 (n := 7) rfl).is) ?_
                  refine ops_y hH169 rfl rfl (yv_mul rfl rfl (by omega)) ?_
                  refine ops_y hH169 rfl rfl (yv_lss rfl rfl) ?_
                  refine ops_nil ?_
                  refine thn_n ?_
                  by_cases hc170 : (vq : Int) < (2 * (js.length : Int))
                  · skip
                    refine cond_t rfl (decide_eq_true hc170) ?_
                    refine skip ?_
                    refine thn_n ?_
                    refine seq ?_
                    refine block ?_
                    have hbv := hps.bd hj (w := vq) (by omega)
                    have hmv := hj.at2 (w := (vq : Int)) (by omega) (by omega)
                    refine region ?_
                    refine ops_y hH169 rfl rfl (yv_move rfl) ?_
                    refine ops_y hH169 rfl rfl (yv_move rfl) ?_
                    by_cases hc171 : tt = true
                    · skip
                      refine guard_no rfl rfl hc171 rfl ?_
                      refine guard_no rfl rfl hc171 rfl ?_
                      refine guard_no rfl rfl hc171 rfl ?_
                      refine guard_no rfl rfl hc171 rfl ?_
                      refine guard_no rfl rfl hc171 rfl ?_
                      refine guard_none rfl rfl rfl ?_
                      refine guard_none rfl rfl rfl ?_
                      refine guard_none rfl rfl rfl ?_
                      refine guard_none rfl rfl rfl ?_
                      refine guard_none rfl rfl rfl ?_
                      refine guard_none rfl rfl rfl ?_
                      refine guard_none rfl rfl rfl ?_
                      refine guard_none rfl rfl rfl ?_
                      refine guard_none rfl rfl rfl ?_
                      refine guard_no rfl rfl hc171 rfl ?_
                      refine ops_y hH169 rfl rfl (yv_pick_t rfl hc171 rfl) ?_
                      refine ops_y hH169 rfl rfl (yv_assign rfl) ?_
                      refine ops_nil ?_
                      refine blk_n ?_
                      refine thn_n ?_
                      refine region ?_
                      refine ops_y hH169 rfl rfl (yv_move rfl) ?_
                      refine ops_y hH169 rfl rfl (yv_add rfl rfl (by omega)) ?_
                      refine ops_y hH169 rfl rfl (yv_assign rfl) ?_
                      refine ops_nil ?_
                      refine lp_n (vq + 1, true) (Sub.cons rfl (Sub.cons rfl (Sub.cons rfl (Sub.cons rfl (Sub.cons rfl (Sub.cons rfl (Sub.cons rfl (Sub.cons rfl (Sub.nil _))))))))) ?_ ?_
                      · exact ⟨hH169, by omega, S.tight_snoc hinv (by first | exact ⟨fun _ => .inl ‹_›, fun _ => rfl⟩ | exact ⟨fun h => .inr ⟨‹_›, of_decide_eq_true h⟩, fun h => h.elim (fun h => absurd h ‹_›) (fun h => decide_eq_true h.2)⟩ | exact ⟨fun h => (by cases h), fun h => h.elim (fun h => absurd h ‹_›) (fun h => absurd h.1 ‹_›)⟩)⟩
                      · first | (dsimp only; omega) | (show _ < _; omega)
                    · skip
                      refine guard_yes rfl rfl (Bool.eq_false_iff.2 hc171) ?_
                      refine ops_y hH169 rfl rfl (yv_loadA (cs := [ob116, ot117, of118]) T.agg41 rfl rfl (fun _ hw => Heap.cellsw hw (n := 3) rfl (k := 0) rfl)) ?_
                      refine guard_yes rfl rfl (Bool.eq_false_iff.2 hc171) ?_
                      refine ops_y hH169 rfl rfl (yv_move rfl) ?_
                      refine guard_yes rfl rfl (Bool.eq_false_iff.2 hc171) ?_
                      refine ops_y hH169 rfl rfl (yv_move rfl) ?_
                      refine guard_yes rfl rfl (Bool.eq_false_iff.2 hc171) ?_
                      refine op_fnV rfl rfl rfl hH169 (c48 ((Heap.getRd3 hH169 (n := 4) rfl).1) ((Heap.getRd3 hH169 (n := 4) rfl).2.1) ((Heap.getRd3 hH169 (n := 4) rfl).2.2) (by omega) (by omega) (by omega) (by omega) (by omega) (by omega) (by omega)) (fun w172 hH173 => ?_)
                      refine guard_yes rfl rfl (Bool.eq_false_iff.2 hc171) ?_
                      refine ops_y hH173 rfl rfl (yv_move rfl) ?_
                      by_cases hc174 : S.Waits (S.rowB q 0 js.length) (S.rowB q 1 js.length) (S.firstsOf q js.length) (wq : Int) (vq : Int)
                      · skip
                        refine guard_yes rfl rfl (decide_eq_true hc174) ?_
                        refine ops_y hH173 rfl rfl (yv_move rfl) ?_
                        refine guard_yes rfl rfl (decide_eq_true hc174) ?_
                        refine ops_y hH173 rfl rfl (yv_move rfl) ?_
                        refine guard_yes rfl rfl (decide_eq_true hc174) ?_
                        refine op_fnV rfl rfl rfl hH173 (c47 (Heap.rdw T.el23_encP hH173 (n := 2) rfl) (by omega) (by omega) (by omega)) (fun w175 hH176 => ?_)
                        refine guard_yes rfl rfl (decide_eq_true hc174) ?_
                        refine ops_y hH176 rfl rfl (yv_move rfl) ?_
                        refine guard_yes rfl rfl (decide_eq_true hc174) ?_
                        refine ops_y hH176 rfl rfl (yv_move rfl) ?_
                        refine guard_yes rfl rfl (decide_eq_true hc174) ?_
                        refine op_fnV rfl rfl rfl hH176 (c49 (h0.now hH176 (n := 7) rfl) (by omega) (by omega) (by omega)) (fun w177 hH178 => ?_)
                        refine guard_yes rfl rfl (decide_eq_true hc174) ?_
                        refine ops_y hH178 rfl rfl (yv_add rfl rfl (by omega)) ?_
                        refine guard_yes rfl rfl (decide_eq_true hc174) ?_
                        refine ops_y hH178 rfl rfl (yv_move rfl) ?_
                        refine guard_yes rfl rfl (decide_eq_true hc174) ?_
                        refine ops_y hH178 rfl rfl (yv_eql rfl rfl) ?_
                        refine guard_yes rfl rfl (Bool.eq_false_iff.2 hc171) ?_
                        refine ops_y hH178 rfl rfl (yv_pick_t rfl (decide_eq_true hc174) rfl) ?_
                        refine ops_y hH178 rfl rfl (yv_pick_f rfl (Bool.eq_false_iff.2 hc171) rfl) ?_
                        refine ops_y hH178 rfl rfl (yv_assign rfl) ?_
                        refine ops_nil ?_
                        refine blk_n ?_
                        refine thn_n ?_
                        refine region ?_
                        refine ops_y hH178 rfl rfl (yv_move rfl) ?_
                        refine ops_y hH178 rfl rfl (yv_add rfl rfl (by omega)) ?_
                        refine ops_y hH178 rfl rfl (yv_assign rfl) ?_
                        refine ops_nil ?_
                        refine lp_n (vq + 1, decide (((S.at2 p (vq : Int)) + (S.at2 js (vq : Int))) = (S.at2 p (wq : Int)))) (Sub.cons rfl (Sub.cons rfl (Sub.cons rfl (Sub.cons rfl (Sub.cons rfl (Sub.cons rfl (Sub.cons rfl (Sub.cons rfl (Sub.nil _))))))))) ?_ ?_
                        · exact ⟨hH178, by omega, S.tight_snoc hinv (by first | exact ⟨fun _ => .inl ‹_›, fun _ => rfl⟩ | exact ⟨fun h => .inr ⟨‹_›, of_decide_eq_true h⟩, fun h => h.elim (fun h => absurd h ‹_›) (fun h => decide_eq_true h.2)⟩ | exact ⟨fun h => (by cases h), fun h => h.elim (fun h => absurd h ‹_›) (fun h => absurd h.1 ‹_›)⟩)⟩
                        · first | (dsimp only; omega) | (show _ < _; omega)
                      · skip
                        refine guard_no rfl rfl (decide_eq_false hc174) rfl ?_
                        refine guard_no rfl rfl (decide_eq_false hc174) rfl ?_
                        refine guard_no rfl rfl (decide_eq_false hc174) rfl ?_
                        refine guard_no rfl rfl (decide_eq_false hc174) rfl ?_
                        refine guard_no rfl rfl (decide_eq_false hc174) rfl ?_
                        refine guard_no rfl rfl (decide_eq_false hc174) rfl ?_
                        refine guard_no rfl rfl (decide_eq_false hc174) rfl ?_
                        refine guard_no rfl rfl (decide_eq_false hc174) rfl ?_
                        refine guard_no rfl rfl (decide_eq_false hc174) rfl ?_
                        refine guard_yes rfl rfl (Bool.eq_false_iff.2 hc171) ?_
                        refine ops_y hH173 rfl rfl (yv_pick_f rfl (decide_eq_false hc174) rfl) ?_
                        refine ops_y hH173 rfl rfl (yv_pick_f rfl (Bool.eq_false_iff.2 hc171) rfl) ?_
                        refine ops_y hH173 rfl rfl (yv_assign rfl) ?_
                        refine ops_nil ?_
                        refine blk_n ?_
                        refine thn_n ?_
                        refine region ?_
                        refine ops_y hH173 rfl rfl (yv_move rfl) ?_
                        refine ops_y hH173 rfl rfl (yv_add rfl rfl (by omega)) ?_
                        refine ops_y hH173 rfl rfl (yv_assign rfl) ?_
                        refine ops_nil ?_
                        refine lp_n (vq + 1, false) (Sub.cons rfl (Sub.cons rfl (Sub.cons rfl (Sub.cons rfl (Sub.cons rfl (Sub.cons rfl (Sub.cons rfl (Sub.cons rfl (Sub.nil _))))))))) ?_ ?_
                        · exact ⟨hH173, by omega, S.tight_snoc hinv (by first | exact ⟨fun _ => .inl ‹_›, fun _ => rfl⟩ | exact ⟨fun h => .inr ⟨‹_›, of_decide_eq_true h⟩, fun h => h.elim (fun h => absurd h ‹_›) (fun h => decide_eq_true h.2)⟩ | exact ⟨fun h => (by cases h), fun h => h.elim (fun h => absurd h ‹_›) (fun h => absurd h.1 ‹_›)⟩)⟩
                        · first | (dsimp only; omega) | (show _ < _; omega)
                  · skip
                    have htt : tt = true := hinv.2 ((hps.2 wq (by omega)).2.2.imp id (fun ⟨v, a, b, c⟩ => ⟨v, by omega, b, c.symm⟩))
                    refine cond_f rfl (decide_eq_false hc170) ?_
                    refine exit ?_
                    refine thn_x ?_
                    refine lp_x ?_
                    refine blk_here ?_
                    refine thn_n ?_
                    refine seq ?_
                    refine region ?_
                    refine ops_y hH169 rfl rfl (yv_move rfl) ?_
                    refine ops_y hH169 rfl rfl (yv_not rfl) ?_
                    refine ops_nil ?_
                    refine thn_n ?_
                    have hc179 : ¬ ((!tt) = true) := by rw [htt]; simp
                    refine cond_f rfl (Bool.eq_false_iff.2 hc179) ?_
                    refine skip ?_
                    refine blk_n ?_
                    refine thn_n ?_
                    refine region ?_
                    refine ops_y hH169 rfl rfl (yv_move rfl) ?_
                    refine ops_y hH169 rfl rfl (yv_add rfl rfl (by omega)) ?_
                    refine ops_y hH169 rfl rfl (yv_assign rfl) ?_
                    refine ops_nil ?_
                    refine lp_n (wq + 1) (Sub.cons rfl (Sub.cons rfl (Sub.cons rfl (Sub.cons rfl (Sub.cons rfl (Sub.nil _)))))) ?_ ?_
                    · exact ⟨hH169, by omega⟩
                    · first | (dsimp only; omega) | (show _ < _; omega)
              · skip
                refine cond_f rfl (decide_eq_false hc162) ?_
                refine exit ?_
                refine thn_x ?_
                refine lp_x ?_
                refine blk_here ?_
                refine thn_n ?_
                refine seq ?_
                refine region ?_
                refine op_fnV rfl rfl rfl hH161 (c17) (fun w180 hH181 => ?_)
                refine ops_y hH181 rfl rfl (yv_assign rfl) ?_
                refine ops_nil ?_
                refine thn_n ?_
                refine ret ?_
                have hH182 := (hH181.sub (List.Sublist.cons _ (List.Sublist.cons _ (List.Sublist.cons _ (List.Sublist.cons _ (List.Sublist.cons _ (List.Sublist.cons _ (List.Sublist.cons _ (List.Sublist.refl _)))))))))
                refine fin hH182 (fun w' hf => (res1 rfl (show RV _ _ _ (.tmp 6) _ from rfl))) (fun w' hf => ?_)
                rfl
          · skip
            have hns : ¬ ∃ p, S.SolP js (S.ordB bs js.length) (S.ordU bs js.length) (S.ordF bs js.length) p := ‹_›
            have hpo := S.playOf_none (fun hs => hns (S.solP_of_solF hs))
            refine region ?_
            refine ops_y hH11 rfl rfl (yv_move rfl) ?_
            refine ops_y hH11 rfl rfl (yv_move rfl) ?_
            refine ops_y hH11 rfl rfl (yv_len T.sl22 rfl (h0.now hH11 (n := 0) rfl).is) ?_
            refine ops_y hH11 rfl rfl (yv_move rfl) ?_
            refine op_fn rfl rfl rfl hH11 (c43 (n := js.length) ((hby.now hH11 (n := 0) rfl)) (by omega) hbb (by omega)) (fun u185 w183 lo186 hi187 hH184 hv188 => ?_)
            obtain ⟨ob189, ot190, of191, hu, -⟩ := hv188
            subst hu
            have hH192 := Heap.rd3 hH184 (n := 0) rfl
            have hev195 : Fn Try.prog 45 [v, (.agg #[ob189, ot190, of191])].toArray _ _ := c45 (h0.now hH192 (n := 1) rfl) ((Heap.getRd3 hH192 (n := 0) rfl).1) ((Heap.getRd3 hH192 (n := 0) rfl).2.1) ((Heap.getRd3 hH192 (n := 0) rfl).2.2) hj hO
            simp only [hpo, Option.getD_none, Option.isSome_none] at hev195
            refine op_fn rfl rfl rfl hH192 (hev195) (fun u196 w193 lo197 hi198 hH194 hv199 => ?_)
            obtain ⟨p201, hu, -⟩ := hv199
            subst hu
            have hH200 := Heap.tup2 hH194 (n := 0) rfl
            refine ops_y hH200 rfl rfl (yv_move rfl) ?_
            refine ops_y hH200 rfl rfl (yv_extract rfl rfl) ?_
            refine ops_y hH200 rfl rfl (yv_extract rfl rfl) ?_
            refine ops_y hH200 rfl rfl (yv_assign rfl) ?_
            refine ops_y hH200 rfl rfl (yv_assign rfl) ?_
            refine ops_nil ?_
            refine thn_n ?_
            refine seq ?_
            refine seq ?_
            refine region ?_
            refine ops_y hH200 rfl rfl (yv_move rfl) ?_
            refine ops_y hH200 rfl rfl (yv_not rfl) ?_
            refine ops_nil ?_
            refine thn_n ?_
            refine cond_t rfl rfl ?_
            refine seq ?_
            refine region ?_
            refine op_fnV rfl rfl rfl hH200 (c17) (fun w202 hH203 => ?_)
            refine ops_y hH203 rfl rfl (yv_assign rfl) ?_
            refine ops_nil ?_
            refine thn_n ?_
            refine ret ?_
            refine thn_r ?_
            refine thn_r ?_
            have hH204 := (hH203.sub (List.Sublist.cons _ (List.Sublist.cons _ (List.Sublist.refl _))))
            refine fin hH204 (fun w' hf => (res1 rfl (show RV _ _ _ (.tmp 6) _ from rfl))) (fun w' hf => ?_)
            rfl
  · skip
    have hnj : ¬ S.Jobs js := ‹_›
    refine region ?_
    refine ops_y hH rfl rfl (yv_move rfl) ?_
    refine op_fnV rfl rfl rfl hH (c41c (h0.now hH (n := 0) rfl)) (fun w205 hH206 => ?_)
    refine ops_y hH206 rfl rfl (yv_castB (bnot_t (decide_eq_false hc1)) (yv_not rfl)) ?_
    refine ops_y hH206 rfl rfl (yv_move rfl) ?_
    refine guard_no rfl rfl rfl rfl ?_
    refine guard_no rfl rfl rfl rfl ?_
    refine guard_no rfl rfl rfl rfl ?_
    refine ops_y hH206 rfl rfl (yv_pick_t rfl rfl rfl) ?_
    refine ops_y hH206 rfl rfl (yv_move rfl) ?_
    refine guard_no rfl rfl rfl rfl ?_
    refine guard_no rfl rfl rfl rfl ?_
    refine guard_no rfl rfl rfl rfl ?_
    refine ops_y hH206 rfl rfl (yv_pick_t rfl rfl rfl) ?_
    refine ops_nil ?_
    refine thn_n ?_
    refine cond_t rfl rfl ?_
    refine seq ?_
    refine region ?_
    refine op_fnV rfl rfl rfl hH206 (c17) (fun w207 hH208 => ?_)
    refine ops_y hH208 rfl rfl (yv_assign rfl) ?_
    refine ops_nil ?_
    refine thn_n ?_
    refine ret ?_
    refine thn_r ?_
    refine fin hH208 (fun w' hf => (res1 rfl (show RV _ _ _ (.tmp 6) _ from rfl))) (fun w' hf => ?_)
    rfl

end Go.Fip
