/- Joined texts: Wp, Wq, Wr, Ws. -/
import Derived.Test.YtkhokmfjnjfojaaME
import Derived.Test.YtkhokmfjnjfojaaMC
import Derived.Test.YtkhokmfjnjfojaaMB
set_option linter.unusedVariables false
set_option linter.unusedSimpArgs false
set_option linter.unusedSectionVars false
set_option linter.unnecessarySimpa false
namespace Go.Fip
open Go.Proofs Go.RowKit

theorem c93 {v u : Value} {l m : List Int} {w : World} (h0 : Rd encI 1 v l w) (h1 : Rd encI 1 u m w) (hn : l.length ≤ 1000000) (hn2 : m.length ≤ 1000000)  :
    Fn Try.prog 93 [v, u].toArray w (fun u _ => u = .bool (decide (Q.cmpL l m < 0))) := by
  refine fn_of' (args := [v, u]) Try.func93 rfl (ent Try.func93 (by kernel_rfl) rfl) rfl rfl (fun hH => ?_)
  refine seq (region (ops_y hH rfl rfl (yv_assign rfl) (ops_nil (thn_n (seq (region (ops_y hH rfl rfl (yv_move rfl) (ops_y hH rfl rfl (yv_move rfl) ?_))))))))
  refine op_fnV rfl rfl rfl hH (c75 (h0.now hH (n := 0) rfl) (h1.now hH (n := 0) rfl) (by omega) (by omega)) (fun w1 hH2 => ?_)
  refine ops_y hH2 rfl rfl (yv_lss rfl rfl) ?_
  refine ops_y hH2 rfl rfl (yv_assign rfl) (ops_nil (thn_n (ret ?_)))
  refine fin hH2 (fun w' hf => (res1 rfl (show RV _ _ _ (.tmp 4) _ from rfl))) (fun w' hf => ?_)
  rfl

theorem c92 {u : Value} {TT : List Hd} {RR : List (List Int)} {w : World} (ha : RowsAt u TT RR w) (hn : 1 ≤ RR.length) (hn2 : RR.length ≤ 1000000) (he1 : ∀ i : Nat, i < RR.length → (nth RR (i : Int)).length ≤ 1000000)  :
    Fn Try.prog 92 [u, (.func (.func 93) #[] #[])].toArray w (fun x _ => ∃ j : Nat, j < TT.length ∧ x = sv (nth TT (j : Int)) ∧ nth RR (j : Int) = Q.minT RR) := by
  refine fn_of' (args := [u, (.func (.func 93) #[] #[])]) Try.func92 rfl (ent Try.func92 (by kernel_rfl) rfl) rfl rfl (fun hH => ?_)
  have hl1 := ha.2.1
  have hd : (TT.drop 1).length = TT.length - 1 := List.length_drop
  have hd2 : (RR.drop 1).length = RR.length - 1 := List.length_drop
  refine seq (region (ops_y hH rfl rfl (yv_assign rfl) (ops_nil (thn_n (seq (region (ops_y hH rfl rfl (yv_move rfl) ?_)))))))
  refine ops_y hH rfl rfl (yv_index T.sl100 rfl rfl ((ha.now hH (n := 0) rfl).1).is (by omega)) ?_
  refine ops_y hH rfl rfl (yv_load T.one22 rfl (fun _ hw => Rd.at ((ha.now hw (n := 0) rfl).1) (i := 0) (by omega) (j := 0) rfl)) ?_
  refine ops_y hH rfl rfl (yv_assign rfl) (ops_nil (thn_n (seq (seq (region (ops_y hH rfl rfl (yv_move rfl) ?_))))))
  refine ops_y hH rfl rfl (yv_cut_lo T.sl100 rfl rfl ((ha.now hH (n := 0) rfl).1).is (by omega)) ?_
  refine ops_y hH rfl rfl (yv_len T.sl100 rfl (Rd.from ((ha.now hH (n := 0) rfl).1) (lo := 1) (by omega)).is) ?_
  refine ops_y hH rfl rfl (yv_move rfl) (ops_nil (thn_n (block ?_)))
  refine loop (S := Nat × Nat) (fun (k, q) => [(14, (.int .i64 (k : Int))), (5, (sv (nth TT (q : Int)))), (1, (.func (.func 93) #[] #[])), (4, (.slice none 0 0)), (12, (cutv u 1 1 TT.length)), (13, (.int .i64 ((TT.drop 1).length : Int)))]) (fun (k, q) w1 => Heap [base w] w1 ∧ k ≤ (RR.drop 1).length ∧ q ≤ k ∧ nth RR (q : Int) = bestTo (fun a b : List Int => decide (Q.cmpL a b < 0)) RR k) (fun (k, q) => (RR.drop 1).length - k) (0, 0) (Sub.cons rfl (Sub.cons rfl (Sub.cons rfl (Sub.cons rfl (Sub.cons rfl (Sub.cons rfl (Sub.nil _))))))) ?_ ?_
  · exact ⟨hH, by omega, by omega, rfl⟩
  · rintro ⟨k, q⟩ w1 ⟨hH2, hk, hqk, hq⟩
    show Holds _ _ _ _ _ [(14, (.int .i64 (k : Int))), (5, (sv (nth TT (q : Int)))), (1, (.func (.func 93) #[] #[])), (4, (.slice none 0 0)), (12, (cutv u 1 1 TT.length)), (13, (.int .i64 ((TT.drop 1).length : Int)))] _ _
    refine seq (region ?_)
    refine ops_y hH2 rfl rfl (yv_lss rfl rfl) ?_
    refine ops_nil (thn_n (seq ?_))
    by_cases hc3 : (k : Int) < ((TT.drop 1).length : Int)
    · skip
      refine cond_t rfl (decide_eq_true hc3) ?_
      refine skip (thn_n (seq (block (seq (region ?_)))))
      refine ops_y hH2 rfl rfl (yv_index T.sl100 rfl rfl (Rd.from ((ha.now hH2 (n := 0) rfl).1) (lo := 1) (by omega)).is (by omega)) ?_
      refine ops_y hH2 rfl rfl (yv_load T.one22 rfl (fun _ hw => Rd.at (Rd.from ((ha.now hw (n := 0) rfl).1) (lo := 1) (by omega)) (i := (k : Int)) (by omega) (j := 0) rfl)) ?_
      refine ops_y hH2 rfl rfl (yv_assign rfl) (ops_nil (thn_n (seq ?_)))
      have hka := he1 (1 + k) (by omega)
      rw [← nth_drop RR 1 k] at hka
      have hkb := he1 q (by omega)
      refine region (ops_y hH2 rfl rfl (yv_move rfl) (ops_y hH2 rfl rfl (yv_move rfl) (ops_y hH2 rfl rfl (yv_move rfl) ?_)))
      refine op_fnV rfl rfl rfl hH2 (c93 (RowsAt.at ((ha.now hH2 (n := 0) rfl).drop1 (by omega)) (by omega) (by omega)) (RowsAt.at (ha.now hH2 (n := 0) rfl) (by omega) (by omega)) (by omega) (by omega)) (fun w4 hH5 => ?_)
      refine ops_nil (thn_n ?_)
      by_cases hc6 : (fun a b : List Int => decide (Q.cmpL a b < 0)) (nth (RR.drop 1) (k : Int)) (nth RR (q : Int)) = true
      · skip
        have hp : (fun a b : List Int => decide (Q.cmpL a b < 0)) (nth (RR.drop 1) (k : Int)) (nth RR (q : Int)) = true := hc6
        refine cond_t rfl hc6 ?_
        refine region (ops_y hH5 rfl rfl (yv_move rfl) (ops_y hH5 rfl rfl (yv_assign rfl) (ops_nil (blk_n (thn_n (region ?_))))))
        refine ops_y hH5 rfl rfl (yv_add rfl rfl (by omega)) ?_
        refine ops_y hH5 rfl rfl (yv_move rfl) (ops_nil ?_)
        refine lp_n (k + 1, k + 1) (Sub.cons rfl (Sub.cons (by first | rfl | (rw [nth_drop, Nat.add_comm]; rfl)) (Sub.cons rfl (Sub.cons rfl (Sub.cons rfl (Sub.cons rfl (Sub.nil _))))))) ?_ ?_
        · exact ⟨hH5, by omega, by omega, by rw [bestTo_t (by rw [← hq]; exact hp), nth_drop, Nat.add_comm]⟩
        · first | (dsimp only; omega) | (show _ < _; omega)
      · skip
        have hpn : (fun a b : List Int => decide (Q.cmpL a b < 0)) (nth (RR.drop 1) (k : Int)) (nth RR (q : Int)) = false := (Bool.eq_false_iff.2 hc6)
        refine cond_f rfl (Bool.eq_false_iff.2 hc6) ?_
        refine skip (blk_n (thn_n (region ?_)))
        refine ops_y hH5 rfl rfl (yv_add rfl rfl (by omega)) ?_
        refine ops_y hH5 rfl rfl (yv_move rfl) (ops_nil ?_)
        refine lp_n (k + 1, q) (Sub.cons rfl (Sub.cons (by first | rfl | (rw [nth_drop, Nat.add_comm]; rfl)) (Sub.cons rfl (Sub.cons rfl (Sub.cons rfl (Sub.cons rfl (Sub.nil _))))))) ?_ ?_
        · exact ⟨hH5, by omega, by omega, by rw [bestTo_f (by rw [← hq]; exact hpn)]; exact hq⟩
        · first | (dsimp only; omega) | (show _ < _; omega)
    · skip
      refine cond_f rfl (decide_eq_false hc3) ?_
      refine exit (thn_x (lp_x (blk_here (thn_n (seq (region (ops_y hH2 rfl rfl (yv_move rfl) (ops_y hH2 rfl rfl (yv_assign rfl) (ops_nil ?_)))))))))
      refine thn_n (ret ?_)
      refine fin hH2 (fun w' hf => (res1 rfl (show RV _ _ _ (.tmp 4) _ from rfl))) (fun w' hf => ?_)
      have hke : k = RR.length - 1 := by omega
      exact ⟨q, by omega, rfl, by rw [hq, hke]; exact bestTo_minT hn⟩

theorem c68r {rb mb s e : Nat} {v : Value} {l : List Int} {m : Q.Mm} {w : World} (hr : RowD rb mb v l m w) (hfullR : Q.Full l m) (hn : l.length ≤ 12) (hw : ∀ x ∈ l, 0 ≤ x ∧ x ≤ 1000) (hse : s ≤ e) (he : e ≤ l.length) (ih : ∀ {s1 e1 : Nat} {w : World}, e1 - s1 < e - s → RowD rb mb v l m w → s1 ≤ e1 → e1 ≤ l.length → Fn Try.prog 68 #[.pointer (some ⟨rb, 0, none⟩), .agg #[.int .i64 (s1 : Int), .int .i64 (e1 : Int)]] w (fun u w => Own 3 1 encI u (Q.F l s1 e1) w))  :
    Fn Try.prog 68 [(.pointer (some ⟨rb, 0, none⟩)), (.agg #[(.int .i64 (s : Int)), (.int .i64 (e : Int))])].toArray w (fun u w => Own 3 1 encI u (Q.F l s e) w) := by
  refine fn_of' (args := [(.pointer (some ⟨rb, 0, none⟩)), (.agg #[(.int .i64 (s : Int)), (.int .i64 (e : Int))])]) Try.func68 rfl (ent Try.func68 (by kernel_rfl) rfl) rfl rfl (fun hH => ?_)
  refine seq (region ?_)
  refine op_box (us := [(.pointer (some ⟨rb, 0, none⟩))]) rfl rfl rfl hH (fun b1 w2 hH3 => ?_)
  refine op_box (us := [(.int .i64 (s : Int)), (.int .i64 (e : Int))]) rfl rfl rfl hH3 (fun b4 w5 hH6 => ?_)
  refine ops_y hH6 rfl rfl (yv_assign rfl) (ops_nil (thn_n (seq (seq (region ?_)))))
  refine ops_y hH6 rfl rfl (yv_field T.f81_0 rfl) ?_
  refine ops_y hH6 rfl rfl (yv_load T.one3 rfl (fun _ hw => Heap.cellw hw (n := 0) rfl rfl)) ?_
  refine ops_y hH6 rfl rfl (yv_field T.f81_1 rfl) ?_
  refine ops_y hH6 rfl rfl (yv_load T.one3 rfl (fun _ hw => Heap.cellw hw (n := 0) rfl rfl)) ?_
  refine ops_y hH6 rfl rfl (yv_eql rfl rfl) ?_
  refine ops_nil (thn_n ?_)
  by_cases hc7 : (s : Int) = (e : Int)
  · skip
    refine cond_t rfl (decide_eq_true hc7) ?_
    refine seq (region (ops_y hH6 rfl rfl (yv_assign rfl) (ops_nil (thn_n (ret (thn_r ?_))))))
    have hH8 := (hH6.sub (List.Sublist.cons _ (List.Sublist.cons _ (List.Sublist.refl _))))
    refine fin hH8 (fun w' hf => (res1 rfl (show RV _ _ _ (.tmp 4) _ from rfl))) (fun w' hf => ?_)
    first | (rw [Q.F_nil (by omega)]; exact own_nil) | (have ho := own_of_tail (L := []) hf (j := jj) (by rw [List.length_map] at hjl; exact hjl); rw [hjm, hRq, Q.fTo_all hlt0 rfl] at ho; exact ho)
  · skip
    refine cond_f rfl (decide_eq_false hc7) ?_
    refine skip (thn_n (seq ?_))
    have hlt0 : s < e := by omega
    refine region ?_
    refine op_alloc (z := (.slice none 0 0)) (us := [(.slice none 0 0)]) (fun _ => by kernel_rfl) rfl rfl hH6 (fun b9 w10 hH11 => ?_)
    refine ops_nil (thn_n (seq (seq (region ?_))))
    refine ops_y hH11 rfl rfl (yv_load T.one76 rfl (fun _ hw => Heap.cellw hw (n := 2) rfl rfl)) ?_
    refine ops_y hH11 rfl rfl (yv_loadA (cs := [(.int .i64 (s : Int)), (.int .i64 (e : Int))]) T.agg81 rfl rfl (fun _ hw => Heap.cellsw hw (n := 1) rfl (k := 0) rfl)) ?_
    refine op_fn rfl rfl rfl hH11 (c82 (rb := rb) (i := s) (k := e)) (fun u16 w14 lo17 hi18 hH15 hv19 => ?_)
    obtain ⟨c12, c13, hu, -⟩ := hv19
    subst hu
    have hH20 := Heap.cap2 (i := s) (k := e) (rb := rb) hH15 (n := 0) rfl
    refine ops_nil (thn_n (block ?_))
    have hH21 := ow_nil (enc := encS) 22 1 hH20
    refine rangeFunc (xs := ((Q.rootsI l s e).map (Value.int .i64))) rfl (it99 (b1 := c12) (b2 := c13) (rb := rb) (mb := mb) (v := v) (i := s) (k := e) hfullR (by omega) hw (by omega) (by omega)) rfl hH21 (fun i H => ∃ Rs : List RwI, ∃ v_a : Value, ∃ lo_a : Nat, ∃ hi_a : Nat, H = [ow lo_a hi_a 22 1 encS v_a (Rs.map (·.s)), ⟨lo17, hi18, Cap2 c12 c13 rb s e⟩, bx b9 100 [v_a], bx b4 81 [(.int .i64 (s : Int)), (.int .i64 (e : Int))], bx b1 76 [(.pointer (some ⟨rb, 0, none⟩))], base w] ++ Rs.map rowI ∧ Rs.map (·.l) = Q.fTo l s e i) (fun c H => False) ⟨[], (.slice none 0 0), w14.heap.size, w14.heap.size, rfl, rfl⟩ (fun i H w hI hw => ?_) (fun l22 D23 i24 x25 H w27 rc hx26 hI hH28 => ?_) (fun D23 H w27 hI hH28 => ?_) (fun D23 c H w27 hI hH28 => ?_)
    · skip
      obtain ⟨_, _, _, _, rfl, _⟩ := hI
      exact ⟨(show Cap2 c12 c13 rb s e _ from hw.get (n := 1) rfl), ⟨((hr.now hw (n := 5) rfl).1), ((hr.now hw (n := 5) rfl).2.1), ((hr.now hw (n := 5) rfl).2.2)⟩⟩
    · skip
      obtain ⟨Rs, v_a, lo_a, hi_a, rfl, hR⟩ := hI
      obtain ⟨hlt, hxe⟩ := map_get hx26
      obtain ⟨j, hjm, hjq, hjn, hjk⟩ := Q.rootsI_nth (w := l) (i := s) (k := e) (q := i24) (by rwa [Q.rootsI_length] at hlt)
      rw [hjn] at hxe
      subst hxe
      refine region (ops_y hH28 rfl rfl (yv_assign rfl) (ops_nil ?_))
      refine ⟨_, hH28, fun w31 hH32 => ?_⟩
      refine block ?_
      have hfl1 := Q.F_length (w := l) (i := s) (k := s + j)
      have hfl2 := Q.F_length (w := l) (i := s + j + 1) (k := e)
      have hsm0 := Q.F_sm (w := l) (s := s) (e := s + j) (by omega) (by omega)
      have hsm1 := Q.F_sm (w := l) (s := s + j + 1) (e := e) (by omega) (by omega)
      have hhl := Q.hung_length (l := Q.F l s (s + j)) (r := Q.F l (s + j + 1) e)
      have hRl : (Rs.map (·.s)).length ≤ 12 := by have h1 := congrArg List.length hR; rw [Q.fTo_length] at h1; have := Q.roots_length (w := l) (i := s) (k := e); simp at h1 ⊢; omega
      refine region_drawY (fun w' => Heap ([recItem l22 { rc with state := .busy }, markItem D23, ⟨lo17, hi18, Cap2 c12 c13 rb s e⟩, bx b9 100 [v_a], bx b4 81 [(.int .i64 (s : Int)), (.int .i64 (e : Int))], bx b1 76 [(.pointer (some ⟨rb, 0, none⟩))], base w] ++ Rs.map rowI) w') [17] T.mixed (fun w33 hr34 => ?_)
      have hH35 := hH32.redrawn hr34
      refine any_takesT [2, 4, 8, 9, 10] (by kernel_rfl)  _ _ _ (by kernel_rfl) ?_
      refine qs_y rfl rfl (yv_field T.f81_0 rfl) ?_
      refine qs_y rfl rfl (yv_move rfl) (qs_y rfl rfl (yv_move rfl) ?_)
      refine qs_y rfl rfl (yv_cast (show ((s + j : Nat) : Int) + 1 = ((s + j + 1 : Nat) : Int) by omega) (yv_add rfl rfl (by omega))) ?_
      refine qs_y rfl rfl (yv_field T.f81_1 rfl) ?_
      refine qs_nil ?_
      refine any_takesY [0, 1, 3, 7, 11] (by kernel_rfl) (hH35.sub (List.Sublist.cons_cons _ (List.Sublist.cons_cons _ (List.Sublist.cons _ (List.Sublist.refl _))))) _ _ _ (by kernel_rfl) ?_
      refine qs_y rfl rfl (yv_load T.one100 rfl (fun _ hw => Heap.cellw hw (n := 3) rfl rfl)) ?_
      refine qs_y rfl rfl (yv_load T.one76 rfl (fun _ hw => Heap.cellw hw (n := 5) rfl rfl)) ?_
      refine qs_y rfl rfl (yv_load T.one3 rfl (fun _ hw => Heap.cellw hw (n := 4) rfl rfl)) ?_
      refine qs_y rfl rfl (yv_load T.one76 rfl (fun _ hw => Heap.cellw hw (n := 5) rfl rfl)) ?_
      refine qs_y rfl rfl (yv_load T.one3 rfl (fun _ hw => Heap.cellw hw (n := 4) rfl rfl)) ?_
      refine qs_nil ?_
      refine any_takesT [5, 12] (by kernel_rfl)  _ _ _ (by kernel_rfl) ?_
      refine qs_y rfl rfl (yv_build (v := (.agg #[(.int .i64 (s : Int)), (.int .i64 ((s + j : Nat) : Int))])) (us := [(0, (.int .i64 (s : Int))), (1, (.int .i64 ((s + j : Nat) : Int)))]) (fun a ha => by simp [ha.ev (show ev _ (.tmp 19) = some _ from rfl), ha.ev (show ev _ (.tmp 20) = some _ from rfl)]) (fun w => by kernel_rfl)) ?_
      refine qs_y rfl rfl (yv_build (v := (.agg #[(.int .i64 ((s + j + 1 : Nat) : Int)), (.int .i64 (e : Int))])) (us := [(0, (.int .i64 ((s + j + 1 : Nat) : Int))), (1, (.int .i64 (e : Int)))]) (fun a ha => by simp [ha.ev (show ev _ (.tmp 25) = some _ from rfl), ha.ev (show ev _ (.tmp 27) = some _ from rfl)]) (fun w => by kernel_rfl)) ?_
      refine qs_nil ?_
      refine any_allY [6] (by kernel_rfl) rfl ?_
      refine ⟨⟨_, rfl, ?_⟩, trivial⟩
      · skip
        refine op_fn rfl rfl rfl hH35 (ih (s1 := s) (e1 := (s + j)) (by omega) ⟨((hr.now hH35 (n := 7) rfl).1), ((hr.now hH35 (n := 7) rfl).2.1), ((hr.now hH35 (n := 7) rfl).2.2)⟩ (by omega) (by omega)) (fun u38 w36 lo39 hi40 hH37 hv41 => ?_)
        have hH42 := Heap.toOw hH37 (n := 0) rfl
        refine ops_nil ?_
        refine ⟨fun _ _ => (hH42.sub (List.Sublist.cons _ (List.Sublist.cons_cons _ (List.Sublist.cons_cons _ (List.Sublist.cons _ (List.Sublist.refl _)))))), ?_⟩
        refine any_allY [13] (by kernel_rfl) rfl ?_
        refine ⟨⟨_, rfl, ?_⟩, trivial⟩
        · skip
          refine op_fn rfl rfl rfl hH42 (ih (s1 := (s + j + 1)) (e1 := e) (by omega) ⟨((hr.now hH42 (n := 8) rfl).1), ((hr.now hH42 (n := 8) rfl).2.1), ((hr.now hH42 (n := 8) rfl).2.2)⟩ (by omega) (by omega)) (fun u45 w43 lo46 hi47 hH44 hv48 => ?_)
          have hH49 := Heap.toOw hH44 (n := 0) rfl
          refine ops_nil ?_
          refine ⟨fun _ _ => (hH49.sub (List.Sublist.cons _ (List.Sublist.cons _ (List.Sublist.cons_cons _ (List.Sublist.cons_cons _ (List.Sublist.cons _ (List.Sublist.refl _))))))), ?_⟩
          refine any_allY [14] (by kernel_rfl) rfl ?_
          refine ⟨⟨_, rfl, ?_⟩, trivial⟩
          · skip
            refine op_fn rfl rfl rfl hH49 (c91 (Heap.rdw T.el22_encI hH49 (n := 1) rfl) (Heap.rdw T.el22_encI hH49 (n := 0) rfl) (by omega) (by omega) hsm0 hsm1) (fun u52 w50 lo53 hi54 hH51 hv55 => ?_)
            have hH56 := Heap.toOw hH51 (n := 0) rfl
            refine ops_nil ?_
            refine ⟨fun _ _ => (hH56.sub (List.Sublist.cons _ (List.Sublist.cons _ (List.Sublist.cons _ (List.Sublist.cons_cons _ (List.Sublist.cons_cons _ (List.Sublist.cons _ (List.Sublist.refl _)))))))), ?_⟩
            refine any_allY [15] (by kernel_rfl) rfl ?_
            refine ⟨⟨_, rfl, ?_⟩, trivial⟩
            · skip
              obtain ⟨s57, hs58⟩ := Heap.sv hH56 (n := 0) rfl (by omega)
              refine op_lit (us := [(0, u52)]) T.el100_encS [s57] rfl (by decide) rfl (fun a ha => by simp [ha.ev (show ev _ (.tmp 30) = some _ from rfl)]) (fun w => by rw [hs58]; kernel_rfl) hH56 (fun u59 lo61 hi62 w60 hH63 => ?_)
              refine ops_nil ?_
              refine ⟨fun _ _ => (hH63.sub (List.Sublist.cons _ (List.Sublist.cons _ (List.Sublist.cons _ (List.Sublist.cons _ (List.Sublist.cons_cons _ (List.Sublist.cons_cons _ (List.Sublist.cons _ (List.Sublist.refl _))))))))), ?_⟩
              refine any_allY [16] (by kernel_rfl) rfl ?_
              refine ⟨⟨_, rfl, ?_⟩, trivial⟩
              · skip
                refine op_append (n := 6) T.el100_encS rfl rfl rfl hH63 rfl (Heap.rdw T.el100_encS hH63 (n := 0) rfl) (by first | omega | (simp only [List.length_append, List.length_cons, List.length_nil]; omega)) (fun u64 lo66 hi67 w65 hH68 => ?_)
                refine ops_nil ?_
                refine ⟨fun _ _ => (hH68.sub (List.Sublist.cons _ (List.Sublist.cons _ (List.Sublist.cons _ (List.Sublist.cons _ (List.Sublist.cons_cons _ (List.Sublist.cons_cons _ (List.Sublist.cons _ (List.Sublist.refl _))))))))), ?_⟩
                refine any_allY [17] (by kernel_rfl) rfl ?_
                refine ⟨⟨_, rfl, ?_⟩, trivial⟩
                · skip
                  refine op_store (n := 8) (j := 0) (us := [u64]) rfl rfl hH68 rfl T.sz100 (SliceIs.cells (Heap.rdw T.el100_encS hH68 (n := 6) rfl).is) rfl rfl (SliceIs.one (Heap.rdw T.el100_encS hH68 (n := 6) rfl).is) (fun w69 hH70 => ?_)
                  refine ops_nil ?_
                  refine ⟨(fun h => by cases h), ?_⟩
                  refine any_doneY (by kernel_rfl) ?_
                  refine blk_n ?_
                  have hH71 := (hH70.sub (List.Sublist.cons _ (List.Sublist.cons_cons _ (List.Sublist.cons _ (List.Sublist.cons _ (List.Sublist.refl _))))))
                  have hH72 := Heap.totail (L := [recItem l22 { rc with state := .busy }, markItem D23, ow lo66 hi67 22 1 encS u64 ((Rs.map (·.s)) ++ [s57]), ⟨lo17, hi18, Cap2 c12 c13 rb s e⟩, bx b9 100 [u64], bx b4 81 [(.int .i64 (s : Int)), (.int .i64 (e : Int))], bx b1 76 [(.pointer (some ⟨rb, 0, none⟩))], base w]) hH71 hs58
                  exact ⟨_, ⟨_, ⟨(Rs ++ [RwI.mk lo53 hi54 s57 (Q.hung (Q.F l s (s + j)) (Q.F l (s + j + 1) e))]), u64, lo66, hi67, rfl, snd_snoc hR (Q.fTo_succ hjq) rfl⟩, rfl⟩, (Heap.recast (n := 2) hH72 rfl (hd_snoc rfl))⟩
    · skip
      obtain ⟨Rs, v_a, lo_a, hi_a, rfl, hR⟩ := hI
      refine blk_n (thn_n (seq ?_))
      have hRq : Rs.map (·.l) = Q.fTo l s e (Q.roots l s e).length := by rw [hR, List.length_map, Q.rootsI_length]
      have hrp := Q.roots_pos (w := l) hlt0
      have hrl := Q.roots_length (w := l) (i := s) (k := e)
      have hRl : (Rs.map (·.l)).length = (Q.roots l s e).length := by rw [hRq, Q.fTo_length, Nat.min_self]
      refine region ?_
      refine ops_y hH28 rfl rfl (yv_load T.one100 rfl (fun _ hw => Heap.cellw hw (n := 3) rfl rfl)) ?_
      have hH73 : Heap ([markItem D23, ow lo_a hi_a 22 1 encS v_a (Rs.map (·.s)), ⟨lo17, hi18, Cap2 c12 c13 rb s e⟩, bx b9 100 [v_a], bx b4 81 [(.int .i64 (s : Int)), (.int .i64 (e : Int))], bx b1 76 [(.pointer (some ⟨rb, 0, none⟩))], base w] ++ Rs.map rowI) w27 := hH28
      refine op_fn rfl rfl rfl hH28 (c92 (rows_of_tail2 (L := [markItem D23, ow lo_a hi_a 22 1 encS v_a (Rs.map (·.s)), ⟨lo17, hi18, Cap2 c12 c13 rb s e⟩, bx b9 100 [v_a], bx b4 81 [(.int .i64 (s : Int)), (.int .i64 (e : Int))], bx b1 76 [(.pointer (some ⟨rb, 0, none⟩))], base w]) (Rs := Rs) T.el100_encS T.el22_encI hH73 (n := 1) rfl) (by omega) (by omega) (fun i hi => by rw [hRq] at hi ⊢; have := Q.fTo_row hi; omega)) (fun u76 w74 lo77 hi78 hH75 hv79 => ?_)
      obtain ⟨jj, hjl, hu, hjm⟩ := hv79
      subst hu
      have hH80 := (hH75).sub (List.sublist_cons_self _ _)
      refine ops_y hH80 rfl rfl (yv_assign rfl) (ops_nil (thn_n (ret ?_)))
      have hH81 := (hH80.sub (List.Sublist.cons_cons _ (List.Sublist.cons _ (List.Sublist.cons _ (List.Sublist.cons _ (List.Sublist.cons _ (List.Sublist.cons _ (List.Sublist.refl _))))))))
      refine fin_1 (hH81.front (n := 1) rfl) (fun w' hf => (res1 rfl (show RV _ _ _ (.tmp 4) _ from rfl))) (fun w' hf => ?_)
      first | (rw [Q.F_nil (by omega)]; exact own_nil) | (have ho := own_of_tail (L := []) hf (j := jj) (by rw [List.length_map] at hjl; exact hjl); rw [hjm, hRq, Q.fTo_all hlt0 rfl] at ho; exact ho)
    · skip
      exact hI.elim

theorem c68 {rb mb s e : Nat} {v : Value} {l : List Int} {m : Q.Mm} {w : World} (hr : RowD rb mb v l m w) (hfullR : Q.Full l m) (hn : l.length ≤ 12) (hw : ∀ x ∈ l, 0 ≤ x ∧ x ≤ 1000) (hse : s ≤ e) (he : e ≤ l.length) : Fn Try.prog 68 #[.pointer (some ⟨rb, 0, none⟩), .agg #[.int .i64 (s : Int), .int .i64 (e : Int)]] w (fun u w => Own 3 1 encI u (Q.F l s e) w) := by
  induction hlen : e - s using Nat.strongRecOn generalizing s e w with
  | _ n ih => exact c68r hr hfullR hn hw hse he (fun hlt h1 h2 h3 => ih _ (by omega) h1 h2 h3 rfl)

theorem c27 {v : Value} {l : List Int} {w : World} (h0 : Rd encI 1 v l w) (hn : l.length ≤ 1000000)  :
    Fn Try.prog 27 [v].toArray w (fun u w => ∃ q, u = .tuple #[q, .int .i64 (Q.bestR l).2] ∧ Own 3 1 encI q (Q.bestR l).1 w) := by
  refine fn_of' (args := [v]) Try.func27 rfl (ent Try.func27 (by kernel_rfl) rfl) rfl rfl (fun hH => ?_)
  refine seq (region (ops_y hH rfl rfl (yv_assign rfl) (ops_y hH rfl rfl (yv_assign rfl) (ops_nil (thn_n (seq ?_))))))
  by_cases hc1 : Q.ckW l = 0
  · skip
    have hc0 : Q.ckW l = 0 := ‹_›
    obtain ⟨hl12, hw⟩ := Q.ckW_w hc0
    refine region (ops_y hH rfl rfl (yv_move rfl) ?_)
    refine op_fn rfl rfl rfl hH (c64g (h0.now hH (n := 0) rfl) (by omega) hc0) (fun u4 w2 lo5 hi6 hH3 hv7 => ?_)
    obtain ⟨rbR, hu, hrowR⟩ := hv7
    subst hu
    obtain ⟨mbR, esR, clockR, mR, hentsR, hfullR, hH8⟩ := Heap.fixMap hH3 (n := 0) rfl (fun w' h => by obtain ⟨rb', e, h⟩ := h; cases e; exact h)
    refine ops_y hH8 rfl rfl (yv_move rfl) (ops_y hH8 rfl rfl (yv_extract rfl rfl) (ops_y hH8 rfl rfl (yv_extract rfl rfl) (ops_y hH8 rfl rfl (yv_assign rfl) (ops_y hH8 rfl rfl (yv_assign rfl) (ops_nil (thn_n (seq (seq (region ?_)))))))))
    refine ops_y hH8 rfl rfl (yv_move rfl) ?_
    refine ops_y hH8 rfl rfl (yv_neq rfl rfl) ?_
    refine ops_nil (thn_n ?_)
    refine cond_f rfl rfl ?_
    refine skip (thn_n (seq (region (ops_y hH8 rfl rfl (yv_move rfl) (ops_y hH8 rfl rfl (yv_move rfl) ?_)))))
    refine ops_y hH8 rfl rfl (yv_nilck rfl) ?_
    refine ops_y hH8 rfl rfl (yv_field T.f87_0 rfl) ?_
    refine ops_y hH8 rfl rfl (yv_loadA (cs := [v]) T.agg84 rfl rfl (fun _ hw => bx_cells ((show RowAt 87 rbR v mbR esR clockR _ from hw.get (n := 0) rfl).1) (k := 0) rfl)) ?_
    refine op_fnV rfl rfl rfl hH8 (c66 (h0.now hH8 (n := 1) rfl)) (fun w9 hH10 => ?_)
    refine op_fn rfl rfl rfl hH10 (c68 (s := 0) (e := l.length) ⟨((show RowAt 87 rbR v mbR esR clockR _ from hH10.get (n := 0) rfl).1), (hentsR.mp (show RowAt 87 rbR v mbR esR clockR _ from hH10.get (n := 0) rfl).2), (h0.now hH10 (n := 1) rfl)⟩ hfullR (by omega) hw (by omega) (by omega)) (fun u13 w11 lo14 hi15 hH12 hv16 => ?_)
    have hH17 := Heap.toOw hH12 (n := 0) rfl
    refine ops_y hH17 rfl rfl (yv_assign rfl) (ops_y hH17 rfl rfl (yv_assign rfl) (ops_nil (thn_n (ret ?_))))
    have hH18 := (hH17.sub (List.Sublist.cons_cons _ (List.Sublist.cons _ (List.Sublist.refl _))))
    refine fin (hH18.front (n := 1) rfl) (fun w' hf => (res2 rfl (show RV _ _ _ (.tmp 2) _ from rfl) (show RV _ _ _ (.tmp 3) _ from rfl))) (fun w' hf => ?_)
    first | (rw [Q.be1 hcn]; exact ⟨_, rfl, own_nil⟩) | (rw [Q.be2 hc0]; exact ⟨_, rfl, Heap.own hf (n := 0) rfl⟩)
  · skip
    have hcn : ¬ Q.ckW l = 0 := ‹_›
    refine region (ops_y hH rfl rfl (yv_move rfl) ?_)
    refine op_fnV rfl rfl rfl hH (c64b (h0.now hH (n := 0) rfl) (by omega) hcn) (fun w19 hH20 => ?_)
    refine ops_y hH20 rfl rfl (yv_move rfl) (ops_y hH20 rfl rfl (yv_extract rfl rfl) (ops_y hH20 rfl rfl (yv_extract rfl rfl) (ops_y hH20 rfl rfl (yv_assign rfl) (ops_y hH20 rfl rfl (yv_assign rfl) (ops_nil (thn_n (seq (seq (region ?_)))))))))
    refine ops_y hH20 rfl rfl (yv_move rfl) ?_
    refine ops_y hH20 rfl rfl (yv_neq rfl rfl) ?_
    refine ops_nil (thn_n ?_)
    have hc21 : ¬ ((Q.ckW l) = 0) := hcn
    refine cond_t rfl (not_decide_t hc21) ?_
    refine seq (region (ops_y hH20 rfl rfl (yv_move rfl) (ops_y hH20 rfl rfl (yv_assign rfl) (ops_y hH20 rfl rfl (yv_assign rfl) (ops_nil (thn_n (ret (thn_r ?_))))))))
    refine fin hH20 (fun w' hf => (res2 rfl (show RV _ _ _ (.tmp 2) _ from rfl) (show RV _ _ _ (.tmp 3) _ from rfl))) (fun w' hf => ?_)
    first | (rw [Q.be1 hcn]; exact ⟨_, rfl, own_nil⟩) | (rw [Q.be2 hc0]; exact ⟨_, rfl, Heap.own hf (n := 0) rfl⟩)

end Go.Fip

set_option linter.unusedVariables false
set_option linter.unusedSimpArgs false
set_option linter.unusedSectionVars false
set_option linter.unnecessarySimpa false
namespace Go.Fip
open Go.Proofs Go.RowKit

theorem RowD.nowK {rb mb kb : Nat} {v : Value} {l : List Int} {m km : Q.Mm} {w w' : World} (h : RowD rb mb v l m w) (hk : Mp Q.kvS Q.vvI kb km w) (hne : mb ≠ kb) (hL : Agree 0 kb w w') (hR : Agree (kb + 1) w.heap.size w w') : RowD rb mb v l m w' :=
  ⟨h.1.nowK hk hL hR, h.2.1.nowM hne hL hR, h.2.2.nowM hk hL hR⟩
theorem map_ne {mb b clock : Nat} {es : Array MapEntry} {l : List Int} {m : Q.Mm} {w : World} (hm : w.heap[mb]? = some (.map es clock)) (he : Ents Q.kvS Q.vvI es clock m) (hf : Q.Full l m) (hl : 1 ≤ l.length) (hb : Mp Q.kvS Q.vvI b [] w) : mb ≠ b := fun e => by
  obtain ⟨es', clock', h1, h2, _⟩ := hb
  rw [e, h1] at hm
  simp only [Option.some.injEq, Obj.map.injEq] at hm
  obtain ⟨h3, _⟩ := hm
  subst h3
  obtain ⟨x, hx, _⟩ := he.of_find (hf.has 0 1 (by omega) hl)
  have : es'.toList = [] := by simpa [Views] using h2
  rw [this] at hx; cases hx

theorem c69r {rb mb kb s e : Nat} {v : Value} {l : List Int} {m km : Q.Mm} {w : World} (hr : RowD rb mb v l m w) (hfullR : Q.Full l m) (hn : l.length ≤ 12) (hw : ∀ x ∈ l, 0 ≤ x ∧ x ≤ 1000) (hkm : Mp Q.kvS Q.vvI kb km w) (hK : Q.Kn l km) (hne : mb ≠ kb) (hse : s ≤ e) (he : e ≤ l.length) (ih : ∀ {s1 e1 : Nat} {km : Q.Mm} {w : World}, e1 - s1 < e - s → RowD rb mb v l m w → Mp Q.kvS Q.vvI kb km w → Q.Kn l km → s1 ≤ e1 → e1 ≤ l.length → FnM Try.prog 69 #[.pointer (some ⟨rb, 0, none⟩), .agg #[.int .i64 (s1 : Int), .int .i64 (e1 : Int)], .map (some kb)] w kb (fun u w => u = .int .i64 (Q.M l s1 e1 : Int) ∧ ∃ km, Mp Q.kvS Q.vvI kb km w ∧ Q.Kn l km)) :
    FnM Try.prog 69 [(.pointer (some ⟨rb, 0, none⟩)), (.agg #[(.int .i64 (s : Int)), (.int .i64 (e : Int))]), (.map (some kb))].toArray w kb (fun u w => u = .int .i64 (Q.M l s e : Int) ∧ ∃ km, Mp Q.kvS Q.vvI kb km w ∧ Q.Kn l km) := by
  refine fnK_of (args := [(.pointer (some ⟨rb, 0, none⟩)), (.agg #[(.int .i64 (s : Int)), (.int .i64 (e : Int))]), (.map (some kb))]) Try.func69 rfl (ent Try.func69 (by kernel_rfl) rfl) rfl rfl (mp_ok hkm) (fun hH => ?_)
  refine seq (region ?_)
  refine op_box (us := [(.pointer (some ⟨rb, 0, none⟩))]) rfl rfl rfl hH (fun b1 w2 hH3 => ?_)
  refine op_box (us := [(.int .i64 (s : Int)), (.int .i64 (e : Int))]) rfl rfl rfl hH3 (fun b4 w5 hH6 => ?_)
  refine op_box (us := [(.map (some kb))]) rfl rfl rfl hH6 (fun b7 w8 hH9 => ?_)
  refine ops_y hH9 rfl rfl (yv_assign rfl) (ops_nil (thn_n (seq (seq (region ?_)))))
  refine ops_y hH9 rfl rfl (yv_field T.f81_0 rfl) ?_
  refine ops_y hH9 rfl rfl (yv_load T.one3 rfl (fun _ hw => Heap.cellw hw (n := 1) rfl rfl)) ?_
  refine ops_y hH9 rfl rfl (yv_field T.f81_1 rfl) ?_
  refine ops_y hH9 rfl rfl (yv_load T.one3 rfl (fun _ hw => Heap.cellw hw (n := 1) rfl rfl)) ?_
  refine ops_y hH9 rfl rfl (yv_eql rfl rfl) ?_
  refine ops_nil (thn_n ?_)
  by_cases hc10 : (s : Int) = (e : Int)
  · skip
    refine cond_t rfl (decide_eq_true hc10) ?_
    refine seq (region (ops_y hH9 rfl rfl (yv_assign rfl) (ops_nil (thn_n (ret (thn_r ?_))))))
    have hH11 := (hH9.sub (List.Sublist.cons _ (List.Sublist.cons _ (List.Sublist.cons _ (List.Sublist.refl _)))))
    refine finK [] hH11 (fun w' => (res1 rfl (show RV _ _ _ (.tmp 6) _ from rfl))) (fun w' hf => ?_)
    first | exact ⟨by rw [Q.M_nil (by omega)]; rfl, _, hf, hK⟩ | exact ⟨congrArg (Value.int .i64) (hK.at ‹_›), _, hf, hK⟩ | (have hme : Q.mTo l s e ((Q.rootsI l s e).map (Value.int .i64)).length = Q.M l s e := Q.mTo_all hlt0 (by rw [List.length_map, Q.rootsI_length]); exact ⟨by rw [hme], _, hf, hK.upd (by rw [hme])⟩)
  · skip
    refine cond_f rfl (decide_eq_false hc10) ?_
    refine skip (thn_n (seq (seq ?_)))
    have hlt0 : s < e := by omega
    refine region ?_
    refine ops_y hH9 rfl rfl (yv_load T.one85 rfl (fun _ hw => Heap.cellw hw (n := 0) rfl rfl)) ?_
    refine ops_y hH9 rfl rfl (yv_loadA (cs := [(.int .i64 (s : Int)), (.int .i64 (e : Int))]) T.agg81 rfl rfl (fun _ hw => Heap.cellsw hw (n := 1) rfl (k := 0) rfl)) ?_
    refine ops_y hH9 rfl rfl (yv_lookup2 (k := (((s : Int), (e : Int)) : Int × Int)) T.m85 rfl rfl (fun _ hw => (Heap.mapw hw (n := 3) rfl))) ?_
    refine ops_y hH9 rfl rfl (yv_move rfl) (ops_y hH9 rfl rfl (yv_extract rfl rfl) (ops_y hH9 rfl rfl (yv_extract rfl rfl) (ops_y hH9 rfl rfl (yv_assign rfl) (ops_y hH9 rfl rfl (yv_assign rfl) (ops_nil (thn_n (seq (region (ops_y hH9 rfl rfl (yv_move rfl) ?_)))))))))
    refine ops_nil (thn_n ?_)
    by_cases hc12 : ((find (((s : Int), (e : Int)) : Int × Int) km).isSome) = true
    · skip
      refine cond_t rfl hc12 ?_
      refine seq (region (ops_y hH9 rfl rfl (yv_move rfl) (ops_y hH9 rfl rfl (yv_assign rfl) (ops_nil (thn_n (ret (thn_r ?_)))))))
      have hH13 := (hH9.sub (List.Sublist.cons _ (List.Sublist.cons _ (List.Sublist.cons _ (List.Sublist.refl _)))))
      refine finK [] hH13 (fun w' => (res1 rfl (show RV _ _ _ (.tmp 6) _ from rfl))) (fun w' hf => ?_)
      first | exact ⟨by rw [Q.M_nil (by omega)]; rfl, _, hf, hK⟩ | exact ⟨congrArg (Value.int .i64) (hK.at ‹_›), _, hf, hK⟩ | (have hme : Q.mTo l s e ((Q.rootsI l s e).map (Value.int .i64)).length = Q.M l s e := Q.mTo_all hlt0 (by rw [List.length_map, Q.rootsI_length]); exact ⟨by rw [hme], _, hf, hK.upd (by rw [hme])⟩)
    · skip
      refine cond_f rfl (Bool.eq_false_iff.2 hc12) ?_
      refine skip (thn_n (seq (region ?_)))
      refine op_alloc (z := (.int .i64 0)) (us := [(.int .i64 0)]) (fun _ => by kernel_rfl) rfl rfl hH9 (fun b14 w15 hH16 => ?_)
      refine op_store (n := 0) (j := 0) (us := [(.int .i64 0)]) rfl rfl hH16 rfl T.sz2 rfl rfl rfl (by rfl) (fun w17 hH18 => ?_)
      refine ops_nil (thn_n (seq (seq (region ?_))))
      refine ops_y hH18 rfl rfl (yv_load T.one76 rfl (fun _ hw => Heap.cellw hw (n := 3) rfl rfl)) ?_
      refine ops_y hH18 rfl rfl (yv_loadA (cs := [(.int .i64 (s : Int)), (.int .i64 (e : Int))]) T.agg81 rfl rfl (fun _ hw => Heap.cellsw hw (n := 2) rfl (k := 0) rfl)) ?_
      refine op_fn rfl rfl rfl hH18 (c82 (rb := rb) (i := s) (k := e)) (fun u23 w21 lo24 hi25 hH22 hv26 => ?_)
      obtain ⟨c19, c20, hu, -⟩ := hv26
      subst hu
      have hH27 := Heap.cap2 (i := s) (k := e) (rb := rb) hH22 (n := 0) rfl
      refine ops_nil (thn_n (block ?_))
      refine rangeFunc (xs := ((Q.rootsI l s e).map (Value.int .i64))) rfl (it99 (b1 := c19) (b2 := c20) (rb := rb) (mb := mb) (v := v) (i := s) (k := e) hfullR (by omega) hw (by omega) (by omega)) rfl hH27 (fun i H => ∃ km1 : Q.Mm, H = [⟨lo24, hi25, Cap2 c19 c20 rb s e⟩, bx b14 2 [(.int .i64 (Q.mTo l s e i : Int))], bx b7 85 [(.map (some kb))], bx b4 81 [(.int .i64 (s : Int)), (.int .i64 (e : Int))], bx b1 76 [(.pointer (some ⟨rb, 0, none⟩))], mp Q.kvS Q.vvI kb km1, restL w kb, restR w kb] ∧ Q.Kn l km1) (fun c H => False) ⟨km, rfl, hK⟩ (fun i H w hI hw => ?_) (fun l28 D29 i30 x31 H w33 rc hx32 hI hH34 => ?_) (fun D29 H w33 hI hH34 => ?_) (fun D29 c H w33 hI hH34 => ?_)
      · skip
        obtain ⟨_, rfl, _⟩ := hI
        exact ⟨(show Cap2 c19 c20 rb s e _ from hw.get (n := 0) rfl), ⟨((hr.nowK hkm hne (hw.get (n := 6) rfl) (hw.get (n := 7) rfl)).1), ((hr.nowK hkm hne (hw.get (n := 6) rfl) (hw.get (n := 7) rfl)).2.1), ((hr.nowK hkm hne (hw.get (n := 6) rfl) (hw.get (n := 7) rfl)).2.2)⟩⟩
      · skip
        obtain ⟨km1, rfl, hK⟩ := hI
        obtain ⟨hlt, hxe⟩ := map_get hx32
        obtain ⟨j, hjm, hjq, hjn, hjk⟩ := Q.rootsI_nth (w := l) (i := s) (k := e) (q := i30) (by rwa [Q.rootsI_length] at hlt)
        rw [hjn] at hxe
        subst hxe
        refine region (ops_y hH34 rfl rfl (yv_assign rfl) (ops_nil ?_))
        refine ⟨_, hH34, fun w37 hH38 => ?_⟩
        refine block ?_
        have hmS := Q.mTo_succ (w := l) (s := s) (e := e) hjq
        have hmB := Q.mTo_bd (w := l) (s := s) (e := e) (q := i30 + 1) hlt0 (by omega)
        have hm1 := Q.M_bd (w := l) (s := s) (e := s + j) (by omega)
        have hm2 := Q.M_bd (w := l) (s := s + j + 1) (e := e) (by omega)
        have hmP : (Q.M l s (s + j) : Int) * (Q.M l (s + j + 1) e : Int) = ((Q.M l s (s + j) * Q.M l (s + j + 1) e : Nat) : Int) := (Int.natCast_mul _ _).symm
        refine region_drawY (fun w' => Heap [recItem l28 { rc with state := .busy }, markItem D29, ⟨lo24, hi25, Cap2 c19 c20 rb s e⟩, bx b14 2 [(.int .i64 (Q.mTo l s e i30 : Int))], bx b7 85 [(.map (some kb))], bx b4 81 [(.int .i64 (s : Int)), (.int .i64 (e : Int))], bx b1 76 [(.pointer (some ⟨rb, 0, none⟩))], restL w kb, restR w kb] w') [18] T.mixed (fun w39 hr40 => ?_)
        have hH41 := hH38.redrawn hr40
        refine any_takesT [2, 4, 9, 10, 11] (by kernel_rfl)  _ _ _ (by kernel_rfl) ?_
        refine qs_y rfl rfl (yv_field T.f81_0 rfl) ?_
        refine qs_y rfl rfl (yv_move rfl) (qs_y rfl rfl (yv_move rfl) ?_)
        refine qs_y rfl rfl (yv_cast (show ((s + j : Nat) : Int) + 1 = ((s + j + 1 : Nat) : Int) by omega) (yv_add rfl rfl (by omega))) ?_
        refine qs_y rfl rfl (yv_field T.f81_1 rfl) ?_
        refine qs_nil ?_
        refine any_takesY [0, 1, 3, 6, 8, 12, 14] (by kernel_rfl) (hH41.sub (List.Sublist.cons_cons _ (List.Sublist.cons_cons _ (List.Sublist.cons_cons _ (List.Sublist.cons_cons _ (List.Sublist.cons_cons _ (List.Sublist.cons_cons _ (List.Sublist.cons_cons _ (List.Sublist.cons _ (List.Sublist.refl _)))))))))) _ _ _ (by kernel_rfl) ?_
        refine qs_y rfl rfl (yv_load T.one2 rfl (fun _ hw => Heap.cellw hw (n := 3) rfl rfl)) ?_
        refine qs_y rfl rfl (yv_load T.one76 rfl (fun _ hw => Heap.cellw hw (n := 6) rfl rfl)) ?_
        refine qs_y rfl rfl (yv_load T.one3 rfl (fun _ hw => Heap.cellw hw (n := 5) rfl rfl)) ?_
        refine qs_y rfl rfl (yv_load T.one85 rfl (fun _ hw => Heap.cellw hw (n := 4) rfl rfl)) ?_
        refine qs_y rfl rfl (yv_load T.one76 rfl (fun _ hw => Heap.cellw hw (n := 6) rfl rfl)) ?_
        refine qs_y rfl rfl (yv_load T.one3 rfl (fun _ hw => Heap.cellw hw (n := 5) rfl rfl)) ?_
        refine qs_y rfl rfl (yv_load T.one85 rfl (fun _ hw => Heap.cellw hw (n := 4) rfl rfl)) ?_
        refine qs_nil ?_
        refine any_takesT [5, 13] (by kernel_rfl)  _ _ _ (by kernel_rfl) ?_
        refine qs_y rfl rfl (yv_build (v := (.agg #[(.int .i64 (s : Int)), (.int .i64 ((s + j : Nat) : Int))])) (us := [(0, (.int .i64 (s : Int))), (1, (.int .i64 ((s + j : Nat) : Int)))]) (fun a ha => by simp [ha.ev (show ev _ (.tmp 31) = some _ from rfl), ha.ev (show ev _ (.tmp 32) = some _ from rfl)]) (fun w => by kernel_rfl)) ?_
        refine qs_y rfl rfl (yv_build (v := (.agg #[(.int .i64 ((s + j + 1 : Nat) : Int)), (.int .i64 (e : Int))])) (us := [(0, (.int .i64 ((s + j + 1 : Nat) : Int))), (1, (.int .i64 (e : Int)))]) (fun a ha => by simp [ha.ev (show ev _ (.tmp 38) = some _ from rfl), ha.ev (show ev _ (.tmp 40) = some _ from rfl)]) (fun w => by kernel_rfl)) ?_
        refine qs_nil ?_
        refine any_allY [7] (by kernel_rfl) rfl ?_
        refine ⟨⟨_, rfl, ?_⟩, trivial⟩
        · skip
          refine op_fnM (g := kb) (n := 7) rfl rfl rfl hH41 rfl ⟨Nat.le_refl _, Nat.lt_succ_self _⟩ (ih (s1 := s) (e1 := (s + j)) (by omega) ⟨((hr.nowK hkm hne (hH41.get (n := 8) rfl) (hH41.get (n := 9) rfl)).1), ((hr.nowK hkm hne (hH41.get (n := 8) rfl) (hH41.get (n := 9) rfl)).2.1), ((hr.nowK hkm hne (hH41.get (n := 8) rfl) (hH41.get (n := 9) rfl)).2.2)⟩ (Heap.mapw hH41 (n := 7) rfl) hK (by omega) (by omega)) (fun u44 w42 hH43 hv45 => ?_)
          obtain ⟨hu, -⟩ := hv45
          subst hu
          obtain ⟨km47, hKn48, hH46⟩ := Heap.fixMp hH43 (n := 7) rfl (fun w' h => h.2)
          refine ops_nil ?_
          refine ⟨fun _ _ => (hH46.sub (List.Sublist.cons_cons _ (List.Sublist.cons_cons _ (List.Sublist.cons_cons _ (List.Sublist.cons_cons _ (List.Sublist.cons_cons _ (List.Sublist.cons_cons _ (List.Sublist.cons_cons _ (List.Sublist.cons _ (List.Sublist.refl _)))))))))), ?_⟩
          refine any_allY [15] (by kernel_rfl) rfl ?_
          refine ⟨⟨_, rfl, ?_⟩, trivial⟩
          · skip
            refine op_fnM (g := kb) (n := 7) rfl rfl rfl hH46 rfl ⟨Nat.le_refl _, Nat.lt_succ_self _⟩ (ih (s1 := (s + j + 1)) (e1 := e) (by omega) ⟨((hr.nowK hkm hne (hH46.get (n := 8) rfl) (hH46.get (n := 9) rfl)).1), ((hr.nowK hkm hne (hH46.get (n := 8) rfl) (hH46.get (n := 9) rfl)).2.1), ((hr.nowK hkm hne (hH46.get (n := 8) rfl) (hH46.get (n := 9) rfl)).2.2)⟩ (Heap.mapw hH46 (n := 7) rfl) hKn48 (by omega) (by omega)) (fun u51 w49 hH50 hv52 => ?_)
            obtain ⟨hu, -⟩ := hv52
            subst hu
            obtain ⟨km54, hKn55, hH53⟩ := Heap.fixMp hH50 (n := 7) rfl (fun w' h => h.2)
            refine ops_nil ?_
            refine ⟨fun _ _ => (hH53.sub (List.Sublist.cons_cons _ (List.Sublist.cons_cons _ (List.Sublist.cons_cons _ (List.Sublist.cons_cons _ (List.Sublist.cons_cons _ (List.Sublist.cons_cons _ (List.Sublist.cons_cons _ (List.Sublist.cons _ (List.Sublist.refl _)))))))))), ?_⟩
            refine any_takesT [16, 17] (by kernel_rfl)  _ _ _ (by kernel_rfl) ?_
            refine qs_y rfl rfl (yv_mul rfl rfl (by rw [hmP]; omega)) ?_
            refine qs_y rfl rfl (yv_add rfl rfl (by rw [hmP]; omega)) ?_
            refine qs_nil ?_
            refine any_allY [18] (by kernel_rfl) rfl ?_
            refine ⟨⟨_, rfl, ?_⟩, trivial⟩
            · skip
              refine op_store (n := 3) (j := 0) (us := [(.int .i64 ((Q.mTo l s e i30 : Int) + ((Q.M l s (s + j) : Int) * (Q.M l (s + j + 1) e : Int))))]) rfl rfl hH53 rfl T.sz2 rfl rfl rfl (by rfl) (fun w56 hH57 => ?_)
              refine ops_nil ?_
              refine ⟨(fun h => by cases h), ?_⟩
              refine any_doneY (by kernel_rfl) ?_
              refine blk_n ?_
              exact ⟨_, ⟨_, ⟨km54, rfl, hKn55⟩, rfl⟩, (Heap.recastBx (n := 3) hH57 rfl (by rw [hmS, Int.natCast_add, Int.natCast_mul]; rfl))⟩
      · skip
        obtain ⟨km1, rfl, hK⟩ := hI
        have hH58 := hH34.perm (List.perm_append_comm (l₁ := [_]))
        refine blk_n (thn_n (seq (region ?_)))
        refine ops_y hH58 rfl rfl (yv_load T.one85 rfl (fun _ hw => Heap.cellw hw (n := 2) rfl rfl)) ?_
        refine ops_y hH58 rfl rfl (yv_loadA (cs := [(.int .i64 (s : Int)), (.int .i64 (e : Int))]) T.agg81 rfl rfl (fun _ hw => Heap.cellsw hw (n := 3) rfl (k := 0) rfl)) ?_
        refine ops_y hH58 rfl rfl (yv_load T.one2 rfl (fun _ hw => Heap.cellw hw (n := 1) rfl rfl)) ?_
        refine op_update (n := 5) (k := (((s : Int), (e : Int)) : Int × Int)) (v := (Q.mTo l s e (((Q.rootsI l s e).map (Value.int .i64))).length : Int)) T.m85 rfl rfl rfl hH58 rfl (fun w59 hH60 => ?_)
        refine ops_nil (thn_n (seq (region ?_)))
        refine ops_y hH60 rfl rfl (yv_load T.one2 rfl (fun _ hw => Heap.cellw hw (n := 1) rfl rfl)) ?_
        refine ops_y hH60 rfl rfl (yv_assign rfl) (ops_nil (thn_n (ret ?_)))
        have hH61 := (hH60.sub (List.Sublist.cons _ (List.Sublist.cons _ (List.Sublist.cons _ (List.Sublist.cons _ (List.Sublist.cons _ (List.Sublist.refl _)))))))
        refine finK [D29] hH61 (fun w' => (res1 rfl (show RV _ _ _ (.tmp 6) _ from rfl))) (fun w' hf => ?_)
        first | exact ⟨by rw [Q.M_nil (by omega)]; rfl, _, hf, hK⟩ | exact ⟨congrArg (Value.int .i64) (hK.at ‹_›), _, hf, hK⟩ | (have hme : Q.mTo l s e ((Q.rootsI l s e).map (Value.int .i64)).length = Q.M l s e := Q.mTo_all hlt0 (by rw [List.length_map, Q.rootsI_length]); exact ⟨by rw [hme], _, hf, hK.upd (by rw [hme])⟩)
      · skip
        exact hI.elim

theorem c69 {rb mb kb s e : Nat} {v : Value} {l : List Int} {m km : Q.Mm} {w : World} (hr : RowD rb mb v l m w) (hfullR : Q.Full l m) (hn : l.length ≤ 12) (hw : ∀ x ∈ l, 0 ≤ x ∧ x ≤ 1000) (hkm : Mp Q.kvS Q.vvI kb km w) (hK : Q.Kn l km) (hne : mb ≠ kb) (hse : s ≤ e) (he : e ≤ l.length) : FnM Try.prog 69 #[.pointer (some ⟨rb, 0, none⟩), .agg #[.int .i64 (s : Int), .int .i64 (e : Int)], .map (some kb)] w kb (fun u w => u = .int .i64 (Q.M l s e : Int) ∧ ∃ km, Mp Q.kvS Q.vvI kb km w ∧ Q.Kn l km) := by
  induction hlen : e - s using Nat.strongRecOn generalizing s e km w with
  | _ n ih => exact c69r hr hfullR hn hw hkm hK hne hse he (fun hlt h1 h2 h3 h4 h5 => ih _ (by omega) h1 h2 h3 h4 h5 rfl)

theorem c29 {v : Value} {l : List Int} {w : World} (h0 : Rd encI 1 v l w) (hn : l.length ≤ 1000000)  :
    Fn Try.prog 29 [v].toArray w (fun u _ => u = .tuple #[.int .i64 (Q.manyR l).1, .int .i64 (Q.manyR l).2]) := by
  refine fn_of' (args := [v]) Try.func29 rfl (ent Try.func29 (by kernel_rfl) rfl) rfl rfl (fun hH => ?_)
  refine seq (region (ops_y hH rfl rfl (yv_assign rfl) (ops_y hH rfl rfl (yv_assign rfl) (ops_nil (thn_n (seq ?_))))))
  by_cases hc1 : Q.ckW l = 0
  · skip
    have hc0 : Q.ckW l = 0 := ‹_›
    obtain ⟨hl12, hw⟩ := Q.ckW_w hc0
    refine region (ops_y hH rfl rfl (yv_move rfl) ?_)
    refine op_fn rfl rfl rfl hH (c64g (h0.now hH (n := 0) rfl) (by omega) hc0) (fun u4 w2 lo5 hi6 hH3 hv7 => ?_)
    obtain ⟨rbR, hu, hrowR⟩ := hv7
    subst hu
    obtain ⟨mbR, esR, clockR, mR, hentsR, hfullR, hH8⟩ := Heap.fixMap hH3 (n := 0) rfl (fun w' h => by obtain ⟨rb', e, h⟩ := h; cases e; exact h)
    refine ops_y hH8 rfl rfl (yv_move rfl) (ops_y hH8 rfl rfl (yv_extract rfl rfl) (ops_y hH8 rfl rfl (yv_extract rfl rfl) (ops_y hH8 rfl rfl (yv_assign rfl) (ops_y hH8 rfl rfl (yv_assign rfl) (ops_nil (thn_n (seq (seq (region ?_)))))))))
    refine ops_y hH8 rfl rfl (yv_move rfl) ?_
    refine ops_y hH8 rfl rfl (yv_neq rfl rfl) ?_
    refine ops_nil (thn_n ?_)
    refine cond_f rfl rfl ?_
    refine skip (thn_n (seq (region (ops_y hH8 rfl rfl (yv_move rfl) (ops_y hH8 rfl rfl (yv_move rfl) ?_)))))
    refine ops_y hH8 rfl rfl (yv_nilck rfl) ?_
    refine ops_y hH8 rfl rfl (yv_field T.f87_0 rfl) ?_
    refine ops_y hH8 rfl rfl (yv_loadA (cs := [v]) T.agg84 rfl rfl (fun _ hw => bx_cells ((show RowAt 87 rbR v mbR esR clockR _ from hw.get (n := 0) rfl).1) (k := 0) rfl)) ?_
    refine op_fnV rfl rfl rfl hH8 (c66 (h0.now hH8 (n := 1) rfl)) (fun w9 hH10 => ?_)
    refine op_makeMap Q.kvS Q.vvI rfl hH10 (fun b11 w12 hH13 => ?_)
    have hneK : mbR ≠ b11 := map_ne (show RowAt 87 rbR v mbR esR clockR _ from hH13.get (n := 1) rfl).2 hentsR hfullR (by omega) (Heap.mapw hH13 (n := 0) rfl)
    refine op_fnM (g := b11) (n := 0) rfl rfl rfl hH13 rfl ⟨Nat.le_refl _, Nat.lt_succ_self _⟩ (c69 (s := 0) (e := l.length) ⟨((show RowAt 87 rbR v mbR esR clockR _ from hH13.get (n := 1) rfl).1), (hentsR.mp (show RowAt 87 rbR v mbR esR clockR _ from hH13.get (n := 1) rfl).2), (h0.now hH13 (n := 2) rfl)⟩ hfullR (by omega) hw (Heap.mapw hH13 (n := 0) rfl) Q.Kn.nil hneK (by omega) (by omega)) (fun u16 w14 hH15 hv17 => ?_)
    obtain ⟨hu, -⟩ := hv17
    subst hu
    obtain ⟨km19, hKn20, hH18⟩ := Heap.fixMp hH15 (n := 0) rfl (fun w' h => h.2)
    refine ops_y hH18 rfl rfl (yv_assign rfl) (ops_y hH18 rfl rfl (yv_assign rfl) (ops_nil (thn_n (ret ?_))))
    have hH21 := (hH18.sub (List.Sublist.cons _ (List.Sublist.cons _ (List.Sublist.refl _))))
    refine fin hH21 (fun w' hf => (res2 rfl (show RV _ _ _ (.tmp 2) _ from rfl) (show RV _ _ _ (.tmp 3) _ from rfl))) (fun w' hf => ?_)
    first | exact tup2 (Q.ma1 hcn) | exact tup2 (Q.ma2 hc0)
  · skip
    have hcn : ¬ Q.ckW l = 0 := ‹_›
    refine region (ops_y hH rfl rfl (yv_move rfl) ?_)
    refine op_fnV rfl rfl rfl hH (c64b (h0.now hH (n := 0) rfl) (by omega) hcn) (fun w22 hH23 => ?_)
    refine ops_y hH23 rfl rfl (yv_move rfl) (ops_y hH23 rfl rfl (yv_extract rfl rfl) (ops_y hH23 rfl rfl (yv_extract rfl rfl) (ops_y hH23 rfl rfl (yv_assign rfl) (ops_y hH23 rfl rfl (yv_assign rfl) (ops_nil (thn_n (seq (seq (region ?_)))))))))
    refine ops_y hH23 rfl rfl (yv_move rfl) ?_
    refine ops_y hH23 rfl rfl (yv_neq rfl rfl) ?_
    refine ops_nil (thn_n ?_)
    have hc24 : ¬ ((Q.ckW l) = 0) := hcn
    refine cond_t rfl (not_decide_t hc24) ?_
    refine seq (region (ops_y hH23 rfl rfl (yv_move rfl) (ops_y hH23 rfl rfl (yv_assign rfl) (ops_y hH23 rfl rfl (yv_assign rfl) (ops_nil (thn_n (ret (thn_r ?_))))))))
    refine fin hH23 (fun w' hf => (res2 rfl (show RV _ _ _ (.tmp 2) _ from rfl) (show RV _ _ _ (.tmp 3) _ from rfl))) (fun w' hf => ?_)
    first | exact tup2 (Q.ma1 hcn) | exact tup2 (Q.ma2 hc0)

end Go.Fip

set_option linter.unusedVariables false
set_option linter.unusedSimpArgs false
set_option linter.unusedSectionVars false
set_option linter.unnecessarySimpa false
namespace Go.Fip
open Go.Proofs Go.RowKit

theorem c56 {v : Value} {l : List Int} {w : World} (h0 : Rd encI 1 v l w) (hn : l.length ≤ 1000000)  :
    Fn Try.prog 56 [v].toArray w (fun u w => ∃ q, u = .tuple #[q, .int .i64 (Q.boundsR l).2] ∧ ∃ TT, RowsAt q TT (Q.boundsR l).1 w) := by
  refine fn_of' (args := [v]) Try.func56 rfl (ent Try.func56 (by kernel_rfl) rfl) rfl rfl (fun hH => ?_)
  refine seq (region (ops_y hH rfl rfl (yv_assign rfl) (ops_y hH rfl rfl (yv_assign rfl) (ops_nil (thn_n (seq ?_))))))
  by_cases hc1 : Q.ckW l = 0
  · skip
    have hc0 : Q.ckW l = 0 := ‹_›
    obtain ⟨hl12, hw⟩ := Q.ckW_w hc0
    refine region (ops_y hH rfl rfl (yv_move rfl) ?_)
    refine op_fn rfl rfl rfl hH (c64g (h0.now hH (n := 0) rfl) (by omega) hc0) (fun u4 w2 lo5 hi6 hH3 hv7 => ?_)
    obtain ⟨rbR, hu, hrowR⟩ := hv7
    subst hu
    obtain ⟨mbR, esR, clockR, mR, hentsR, hfullR, hH8⟩ := Heap.fixMap hH3 (n := 0) rfl (fun w' h => by obtain ⟨rb', e, h⟩ := h; cases e; exact h)
    refine ops_y hH8 rfl rfl (yv_move rfl) (ops_y hH8 rfl rfl (yv_extract rfl rfl) (ops_y hH8 rfl rfl (yv_extract rfl rfl) (ops_y hH8 rfl rfl (yv_assign rfl) (ops_y hH8 rfl rfl (yv_assign rfl) (ops_nil (thn_n (seq (seq (region ?_)))))))))
    refine ops_y hH8 rfl rfl (yv_move rfl) ?_
    refine ops_y hH8 rfl rfl (yv_neq rfl rfl) ?_
    refine ops_nil (thn_n ?_)
    refine cond_f rfl rfl ?_
    refine skip (thn_n (seq (region (ops_y hH8 rfl rfl (yv_move rfl) ?_))))
    refine ops_y hH8 rfl rfl (yv_func rfl rfl) ?_
    refine ops_y hH8 rfl rfl (yv_assign rfl) (ops_nil (thn_n (seq (region (ops_y hH8 rfl rfl (yv_assign rfl) (ops_nil (thn_n (seq (seq ?_)))))))))
    refine region (ops_y hH8 rfl rfl (yv_move rfl) ?_)
    refine ops_y hH8 rfl rfl (yv_len T.sl30 rfl (h0.now hH8 (n := 1) rfl).is) ?_
    refine ops_y hH8 rfl rfl (yv_move rfl) (ops_nil (thn_n (block ?_)))
    have hH9 := ow_nil (enc := encS) 30 1 hH8
    refine loop (S := Nat × List RwI × Value × Nat × Nat) (fun (f, Rs, v_7, lo_7, hi_7) => [(23, (.int .i64 (f : Int))), (7, v_7), (0, v), (2, (.slice none 0 0)), (3, (.int .i64 0)), (6, (.func (.func 65) #[(.pointer (some ⟨rbR, 0, none⟩))] #[])), (22, (.int .i64 (l.length : Int)))]) (fun (f, Rs, v_7, lo_7, hi_7) w1 => Heap ([ow lo_7 hi_7 30 1 encS v_7 (Rs.map (·.s)), ⟨lo5, hi6, RowAt 87 rbR v mbR esR clockR⟩, base w] ++ Rs.map (rowE 2)) w1 ∧ f ≤ l.length ∧ Rs.map (·.l) = Q.tabTo l f) (fun (f, Rs, v_7, lo_7, hi_7) => l.length - f) (0, [], (.slice none 0 0), w2.heap.size, w2.heap.size) (Sub.cons rfl (Sub.cons rfl (Sub.cons rfl (Sub.cons rfl (Sub.cons rfl (Sub.cons rfl (Sub.cons rfl (Sub.nil _)))))))) ?_ ?_
    · exact ⟨(Heap.recast (n := 0) hH9 rfl (rfl)), by omega, rfl⟩
    · rintro ⟨f, Rs, v_7, lo_7, hi_7⟩ w10 ⟨hH11, hf, hR⟩
      show Holds _ _ _ _ _ [(23, (.int .i64 (f : Int))), (7, v_7), (0, v), (2, (.slice none 0 0)), (3, (.int .i64 0)), (6, (.func (.func 65) #[(.pointer (some ⟨rbR, 0, none⟩))] #[])), (22, (.int .i64 (l.length : Int)))] _ _
      have hRl : (Rs.map (·.s)).length = f := by have h1 := congrArg List.length hR; rw [Q.tabTo_length] at h1; simpa using h1
      refine seq (region ?_)
      refine ops_y hH11 rfl rfl (yv_lss rfl rfl) ?_
      refine ops_nil (thn_n (seq ?_))
      by_cases hc12 : (f : Int) < (l.length : Int)
      · skip
        refine cond_t rfl (decide_eq_true hc12) ?_
        refine skip (thn_n (seq (block (seq (region (ops_y hH11 rfl rfl (yv_move rfl) (ops_y hH11 rfl rfl (yv_assign rfl) (ops_nil (thn_n ?_)))))))))
        refine seq (region (ops_y hH11 rfl rfl (yv_move rfl) ?_))
        refine ops_y hH11 rfl rfl (yv_len T.sl30 rfl (h0.now hH11 (n := 2) rfl).is) ?_
        refine ops_y hH11 rfl rfl (yv_move rfl) ?_
        refine ops_y hH11 rfl rfl (yv_sub rfl rfl (by omega)) ?_
        refine op_make T.el30_encI (0 : Int) T.z30_encI rfl rfl rfl hH11 (by omega) (by omega) (fun u13 lo15 hi16 w14 hH17 => ?_)
        refine ops_y hH17 rfl rfl (yv_assign rfl) (ops_nil (thn_n (seq (region (ops_y hH17 rfl rfl (yv_move rfl) ?_)))))
        refine op_clear (n := 0) T.el30_encI (0 : Int) T.z30_encI rfl rfl hH17 rfl (fun w18 hH19 => ?_)
        refine ops_nil (thn_n (seq (seq (region (ops_y hH19 rfl rfl (yv_move rfl) ?_)))))
        refine ops_y hH19 rfl rfl (yv_cast (show _ = ((l.length - f : Nat) : Int) by simp only [List.length_replicate]; omega) (yv_len T.sl30 rfl (Heap.rdw T.el30_encI hH19 (n := 0) rfl).is)) ?_
        refine ops_y hH19 rfl rfl (yv_move rfl) (ops_nil (thn_n (block ?_)))
        refine loop (S := Nat × Value × Nat × Nat) (fun (q, v_9, lo_9, hi_9) => [(34, (.int .i64 (q : Int))), (9, v_9), (0, v), (2, (.slice none 0 0)), (3, (.int .i64 0)), (6, (.func (.func 65) #[(.pointer (some ⟨rbR, 0, none⟩))] #[])), (7, v_7), (8, (.int .i64 (f : Int))), (22, (.int .i64 (l.length : Int))), (23, (.int .i64 (f : Int))), (33, (.int .i64 ((l.length - f : Nat) : Int)))]) (fun (q, v_9, lo_9, hi_9) w1 => Heap ([ow lo_9 hi_9 2 1 encI v_9 (Q.rowTo l f q), ow lo_7 hi_7 30 1 encS v_7 (Rs.map (·.s)), ⟨lo5, hi6, RowAt 87 rbR v mbR esR clockR⟩, base w] ++ Rs.map (rowE 2)) w1 ∧ q ≤ l.length - f) (fun (q, v_9, lo_9, hi_9) => l.length - f - q) (0, u13, lo15, hi16) (Sub.cons rfl (Sub.cons rfl (Sub.cons rfl (Sub.cons rfl (Sub.cons rfl (Sub.cons rfl (Sub.cons rfl (Sub.cons rfl (Sub.cons rfl (Sub.cons rfl (Sub.cons rfl (Sub.nil _)))))))))))) ?_ ?_
        · exact ⟨(Heap.recast (n := 0) hH19 rfl (Q.rowTo_zero (by omega))), by omega⟩
        · rintro ⟨q, v_9, lo_9, hi_9⟩ w20 ⟨hH21, hq⟩
          show Holds _ _ _ _ _ [(34, (.int .i64 (q : Int))), (9, v_9), (0, v), (2, (.slice none 0 0)), (3, (.int .i64 0)), (6, (.func (.func 65) #[(.pointer (some ⟨rbR, 0, none⟩))] #[])), (7, v_7), (8, (.int .i64 (f : Int))), (22, (.int .i64 (l.length : Int))), (23, (.int .i64 (f : Int))), (33, (.int .i64 ((l.length - f : Nat) : Int)))] _ _
          have hrl := Q.rowTo_length (l := l) (f := f) (q := q)
          refine seq (region ?_)
          refine ops_y hH21 rfl rfl (yv_lss rfl rfl) ?_
          refine ops_nil (thn_n (seq ?_))
          by_cases hc22 : (q : Int) < ((l.length - f : Nat) : Int)
          · skip
            refine cond_t rfl (decide_eq_true hc22) ?_
            refine skip (thn_n (seq (block (seq (region (ops_y hH21 rfl rfl (yv_move rfl) (ops_y hH21 rfl rfl (yv_assign rfl) (ops_nil (thn_n ?_)))))))))
            have hcv : (find ((f : Int), ((f + q + 1 : Nat) : Int)) mR).getD 0 = Q.C l f (f + q + 1) := hfullR.get (by omega) (by omega)
            refine region (ops_y hH21 rfl rfl (yv_move rfl) (ops_y hH21 rfl rfl (yv_move rfl) (ops_y hH21 rfl rfl (yv_move rfl) (ops_y hH21 rfl rfl (yv_move rfl) (ops_y hH21 rfl rfl (yv_move rfl) (ops_y hH21 rfl rfl (yv_move rfl) ?_))))))
            refine ops_y hH21 rfl rfl (yv_cast (show (f : Int) + (q : Int) = ((f + q : Nat) : Int) by omega) (yv_add rfl rfl (by omega))) ?_
            refine ops_y hH21 rfl rfl (yv_cast (show ((f + q : Nat) : Int) + 1 = ((f + q + 1 : Nat) : Int) by omega) (yv_add rfl rfl (by omega))) ?_
            refine ops_y hH21 rfl rfl (yv_build (v := (.agg #[(.int .i64 (f : Int)), (.int .i64 ((f + q + 1 : Nat) : Int))])) (us := [(0, (.int .i64 (f : Int))), (1, (.int .i64 ((f + q + 1 : Nat) : Int)))]) (fun a ha => by simp [ha.ev (show ev _ (.tmp 40) = some _ from rfl), ha.ev (show ev _ (.tmp 44) = some _ from rfl)]) (fun w => by kernel_rfl)) ?_
            have hev25 : Fn Try.prog 65 [(.pointer (some ⟨rbR, 0, none⟩)), (.agg #[(.int .i64 (f : Int)), (.int .i64 ((f + q + 1 : Nat) : Int))])].toArray _ _ := c65 (m := mR) (a := (f : Int)) (b := ((f + q + 1 : Nat) : Int)) ((show RowAt 87 rbR v mbR esR clockR _ from hH21.get (n := 2) rfl).1) (hentsR.mp (show RowAt 87 rbR v mbR esR clockR _ from hH21.get (n := 2) rfl).2)
            simp only [hcv] at hev25
            refine op_fnV rfl rfl rfl hH21 (hev25) (fun w23 hH24 => ?_)
            refine ops_y hH24 rfl rfl (yv_index T.sl30 rfl rfl (Heap.rdw T.el30_encI hH24 (n := 0) rfl).is (by omega)) ?_
            refine op_setE (n := 0) (i := (q : Int)) (k := 0) (us := [(.int .i64 (Q.C l f (f + q + 1)))]) (z := (Q.C l f (f + q + 1))) T.el30_encI rfl rfl hH24 rfl (by omega) T.sz2 rfl rfl rfl (Nat.le_of_ble_eq_true rfl) (fun w26 hH27 => ?_)
            refine ops_nil (blk_n (thn_n (region ?_)))
            refine ops_y hH27 rfl rfl (yv_add rfl rfl (by omega)) ?_
            refine ops_y hH27 rfl rfl (yv_move rfl) (ops_nil ?_)
            refine lp_n (q + 1, v_9, lo_9, hi_9) (Sub.cons rfl (Sub.cons rfl (Sub.cons rfl (Sub.cons rfl (Sub.cons rfl (Sub.cons rfl (Sub.cons rfl (Sub.cons rfl (Sub.cons rfl (Sub.cons rfl (Sub.cons rfl (Sub.nil _)))))))))))) ?_ ?_
            · exact ⟨(Heap.recast (n := 0) hH27 rfl (Q.rowTo_set (by omega) rfl)), by omega⟩
            · first | (dsimp only; omega) | (show _ < _; omega)
          · skip
            refine cond_f rfl (decide_eq_false hc22) ?_
            refine exit (thn_x (lp_x (blk_here (thn_n (region (ops_y hH21 rfl rfl (yv_move rfl) (ops_y hH21 rfl rfl (yv_move rfl) ?_)))))))
            obtain ⟨s28, hs29⟩ := Heap.sv hH21 (n := 0) rfl (by omega)
            refine op_lit (us := [(0, v_9)]) T.el45_encS [s28] rfl (by decide) rfl (fun a ha => by simp [ha.ev (show ev _ (.tmp 50) = some _ from rfl)]) (fun w => by rw [hs29]; kernel_rfl) hH21 (fun u30 lo32 hi33 w31 hH34 => ?_)
            refine op_append (n := 2) T.el45_encS rfl rfl rfl hH34 rfl (Heap.rdw T.el45_encS hH34 (n := 0) rfl) (by first | omega | (simp only [List.length_append, List.length_cons, List.length_nil]; omega)) (fun u35 lo37 hi38 w36 hH39 => ?_)
            refine ops_y hH39 rfl rfl (yv_assign rfl) (ops_nil (blk_n (thn_n (region ?_))))
            refine ops_y hH39 rfl rfl (yv_add rfl rfl (by omega)) ?_
            refine ops_y hH39 rfl rfl (yv_move rfl) (ops_nil ?_)
            have hH40 := (hH39.sub (List.Sublist.cons _ (List.Sublist.refl _)))
            have hH41 := Heap.totailE (L := [ow lo37 hi38 30 1 encS u35 ((Rs.map (·.s)) ++ [s28]), ⟨lo5, hi6, RowAt 87 rbR v mbR esR clockR⟩, base w]) hH40 hs29
            refine lp_n (f + 1, (Rs ++ [RwI.mk lo_9 hi_9 s28 (Q.rowTo l f q)]), u35, lo37, hi38) (Sub.cons rfl (Sub.cons rfl (Sub.cons rfl (Sub.cons rfl (Sub.cons rfl (Sub.cons rfl (Sub.cons rfl (Sub.nil _)))))))) ?_ ?_
            · exact ⟨(Heap.recast (n := 0) hH41 rfl (hd_snoc rfl)), by omega, snd_snoc hR Q.tabTo_succ (Q.rowTo_all (by omega))⟩
            · first | (dsimp only; omega) | (show _ < _; omega)
      · skip
        refine cond_f rfl (decide_eq_false hc12) ?_
        refine exit (thn_x (lp_x (blk_here (thn_n (seq (region (ops_y hH11 rfl rfl (yv_move rfl) (ops_y hH11 rfl rfl (yv_assign rfl) (ops_y hH11 rfl rfl (yv_assign rfl) ?_)))))))))
        refine ops_nil (thn_n (ret ?_))
        have hH42 := (hH11.sub (List.Sublist.cons_cons _ (List.Sublist.cons _ (List.Sublist.refl _))))
        refine fin (hH42.front (n := 1) rfl) (fun w' hf => (res2 rfl (show RV _ _ _ (.tmp 2) _ from rfl) (show RV _ _ _ (.tmp 3) _ from rfl))) (fun w' hf => ?_)
        first | (rw [Q.bo1 hcn]; exact ⟨_, rfl, _, RowsAt.nil⟩) | (have hfe : f = l.length := (by omega); rw [Q.bo2 hc0]; refine ⟨_, rfl, Rs.map (·.s), ?_⟩; rw [show (Q.tab l, (0 : Int)).1 = Rs.map (·.l) from (by rw [hR, hfe]; rfl)]; exact rows_of_tailE T.el45_encS T.el30_encI hf)
  · skip
    have hcn : ¬ Q.ckW l = 0 := ‹_›
    refine region (ops_y hH rfl rfl (yv_move rfl) ?_)
    refine op_fnV rfl rfl rfl hH (c64b (h0.now hH (n := 0) rfl) (by omega) hcn) (fun w43 hH44 => ?_)
    refine ops_y hH44 rfl rfl (yv_move rfl) (ops_y hH44 rfl rfl (yv_extract rfl rfl) (ops_y hH44 rfl rfl (yv_extract rfl rfl) (ops_y hH44 rfl rfl (yv_assign rfl) (ops_y hH44 rfl rfl (yv_assign rfl) (ops_nil (thn_n (seq (seq (region ?_)))))))))
    refine ops_y hH44 rfl rfl (yv_move rfl) ?_
    refine ops_y hH44 rfl rfl (yv_neq rfl rfl) ?_
    refine ops_nil (thn_n ?_)
    have hc45 : ¬ ((Q.ckW l) = 0) := hcn
    refine cond_t rfl (not_decide_t hc45) ?_
    refine seq (region (ops_y hH44 rfl rfl (yv_move rfl) (ops_y hH44 rfl rfl (yv_assign rfl) (ops_y hH44 rfl rfl (yv_assign rfl) (ops_nil (thn_n (ret (thn_r ?_))))))))
    refine fin hH44 (fun w' hf => (res2 rfl (show RV _ _ _ (.tmp 2) _ from rfl) (show RV _ _ _ (.tmp 3) _ from rfl))) (fun w' hf => ?_)
    first | (rw [Q.bo1 hcn]; exact ⟨_, rfl, _, RowsAt.nil⟩) | (have hfe : f = l.length := (by omega); rw [Q.bo2 hc0]; refine ⟨_, rfl, Rs.map (·.s), ?_⟩; rw [show (Q.tab l, (0 : Int)).1 = Rs.map (·.l) from (by rw [hR, hfe]; rfl)]; exact rows_of_tailE T.el45_encS T.el30_encI hf)

theorem c43 {v : Value} {l : List Int} {w : World} (h0 : Rd encI 1 v l w) (hn : l.length ≤ 1000000) (hc0 : Q.ckW l = 0)  :
    Fn Try.prog 43 [v].toArray w (fun u w => ∃ q, u = .tuple #[q, .bool true] ∧ ∃ TT, RowsAt q TT (Q.tab l) w) := by
  refine fn_of' (args := [v]) Try.func43 rfl (ent Try.func43 (by kernel_rfl) rfl) rfl rfl (fun hH => ?_)
  obtain ⟨hl12, hw⟩ := Q.ckW_w hc0
  have htl := Q.tab_length (l := l)
  refine seq (region (ops_y hH rfl rfl (yv_assign rfl) (ops_y hH rfl rfl (yv_assign rfl) (ops_nil (thn_n (seq (region (ops_y hH rfl rfl (yv_move rfl) ?_))))))))
  refine op_fn rfl rfl rfl hH ((by have h := c56 (h0.now hH (n := 0) rfl) (by omega); rw [Q.bo2 hc0] at h; exact h)) (fun u3 w1 lo4 hi5 hH2 hv6 => ?_)
  obtain ⟨p9, hu, -⟩ := hv6
  subst hu
  obtain ⟨TT7, hH8⟩ := Heap.tupRows hH2 (n := 0) rfl
  have hTl10 := (show RowsAt p9 TT7 (Q.tab l) _ from hH8.get (n := 0) rfl).2.1
  refine ops_y hH8 rfl rfl (yv_move rfl) (ops_y hH8 rfl rfl (yv_extract rfl rfl) (ops_y hH8 rfl rfl (yv_extract rfl rfl) (ops_y hH8 rfl rfl (yv_assign rfl) (ops_y hH8 rfl rfl (yv_assign rfl) (ops_nil (thn_n (seq (seq (region ?_)))))))))
  refine ops_y hH8 rfl rfl (yv_move rfl) ?_
  refine ops_y hH8 rfl rfl (yv_neq rfl rfl) ?_
  refine ops_y hH8 rfl rfl (yv_move rfl) (guard_yes rfl rfl rfl (ops_y hH8 rfl rfl (yv_move rfl) (guard_yes rfl rfl rfl ?_)))
  refine ops_y hH8 rfl rfl (yv_len T.sl45 rfl (((show RowsAt p9 TT7 (Q.tab l) _ from hH8.get (n := 0) rfl)).1).is) ?_
  refine guard_yes rfl rfl rfl (ops_y hH8 rfl rfl (yv_move rfl) (guard_yes rfl rfl rfl ?_))
  refine ops_y hH8 rfl rfl (yv_len T.sl30 rfl (h0.now hH8 (n := 1) rfl).is) ?_
  refine guard_yes rfl rfl rfl ?_
  refine ops_y hH8 rfl rfl (yv_neq rfl rfl) ?_
  refine ops_y hH8 rfl rfl (yv_pick_f rfl rfl rfl) ?_
  refine ops_nil (thn_n ?_)
  have hc11 : ¬ (¬ ((TT7.length : Int) = (l.length : Int))) := by omega
  refine cond_f rfl (not_decide_f hc11) ?_
  refine skip (thn_n (seq (seq (region (ops_y hH8 rfl rfl (yv_assign rfl) (ops_nil (thn_n (block ?_))))))))
  refine loop (S := Nat) (fun i => [(6, (.int .i64 (i : Int))), (0, v), (4, p9)]) (fun i w1 => Heap [⟨lo4, hi5, RowsAt p9 TT7 (Q.tab l)⟩, base w] w1 ∧ i ≤ l.length) (fun i => l.length - i) (0) (Sub.cons rfl (Sub.cons rfl (Sub.cons rfl (Sub.nil _)))) ?_ ?_
  · exact ⟨hH8, by omega⟩
  · rintro i w12 ⟨hH13, hi⟩
    show Holds _ _ _ _ _ [(6, (.int .i64 (i : Int))), (0, v), (4, p9)] _ _
    refine seq (seq (region (ops_y hH13 rfl rfl (yv_move rfl) (ops_y hH13 rfl rfl (yv_move rfl) ?_))))
    refine ops_y hH13 rfl rfl (yv_len T.sl45 rfl (((show RowsAt p9 TT7 (Q.tab l) _ from hH13.get (n := 0) rfl)).1).is) ?_
    refine ops_y hH13 rfl rfl (yv_lss rfl rfl) ?_
    refine ops_nil (thn_n ?_)
    by_cases hc14 : (i : Int) < (TT7.length : Int)
    · skip
      refine cond_t rfl (decide_eq_true hc14) ?_
      refine skip (thn_n (seq (block (seq (seq ?_)))))
      have hrw := Q.tab_row (l := l) (i := i) (by omega)
      refine region (ops_y hH13 rfl rfl (yv_move rfl) (ops_y hH13 rfl rfl (yv_move rfl) ?_))
      refine ops_y hH13 rfl rfl (yv_index T.sl45 rfl rfl (((show RowsAt p9 TT7 (Q.tab l) _ from hH13.get (n := 0) rfl)).1).is (by omega)) ?_
      refine ops_y hH13 rfl rfl (yv_load T.one30 rfl (fun _ hw => Rd.at (((show RowsAt p9 TT7 (Q.tab l) _ from hw.get (n := 0) rfl)).1) (i := (i : Int)) (by omega) (j := 0) rfl)) ?_
      refine ops_y hH13 rfl rfl (yv_len T.sl30 rfl (RowsAt.at ((show RowsAt p9 TT7 (Q.tab l) _ from hH13.get (n := 0) rfl)) (by omega) (by omega)).is) ?_
      refine ops_y hH13 rfl rfl (yv_move rfl) ?_
      refine ops_y hH13 rfl rfl (yv_len T.sl30 rfl (h0.now hH13 (n := 1) rfl).is) ?_
      refine ops_y hH13 rfl rfl (yv_move rfl) ?_
      refine ops_y hH13 rfl rfl (yv_sub rfl rfl (by omega)) ?_
      refine ops_y hH13 rfl rfl (yv_neq rfl rfl) ?_
      refine ops_nil (thn_n ?_)
      have hc15 : ¬ (¬ (((nth (Q.tab l) (i : Int)).length : Int) = ((l.length : Int) - (i : Int)))) := by omega
      refine cond_f rfl (not_decide_f hc15) ?_
      refine skip (thn_n (seq (region (ops_y hH13 rfl rfl (yv_assign rfl) (ops_nil (thn_n (block ?_)))))))
      refine loop (S := Nat) (fun k => [(7, (.int .i64 (k : Int))), (0, v), (4, p9), (6, (.int .i64 (i : Int)))]) (fun k w1 => Heap [⟨lo4, hi5, RowsAt p9 TT7 (Q.tab l)⟩, base w] w1 ∧ k ≤ l.length - i) (fun k => l.length - i - k) (0) (Sub.cons rfl (Sub.cons rfl (Sub.cons rfl (Sub.cons rfl (Sub.nil _))))) ?_ ?_
      · exact ⟨hH13, by omega⟩
      · rintro k w16 ⟨hH17, hk⟩
        show Holds _ _ _ _ _ [(7, (.int .i64 (k : Int))), (0, v), (4, p9), (6, (.int .i64 (i : Int)))] _ _
        refine seq (seq (region (ops_y hH17 rfl rfl (yv_move rfl) (ops_y hH17 rfl rfl (yv_move rfl) (ops_y hH17 rfl rfl (yv_move rfl) ?_)))))
        refine ops_y hH17 rfl rfl (yv_index T.sl45 rfl rfl (((show RowsAt p9 TT7 (Q.tab l) _ from hH17.get (n := 0) rfl)).1).is (by omega)) ?_
        refine ops_y hH17 rfl rfl (yv_load T.one30 rfl (fun _ hw => Rd.at (((show RowsAt p9 TT7 (Q.tab l) _ from hw.get (n := 0) rfl)).1) (i := (i : Int)) (by omega) (j := 0) rfl)) ?_
        refine ops_y hH17 rfl rfl (yv_len T.sl30 rfl (RowsAt.at ((show RowsAt p9 TT7 (Q.tab l) _ from hH17.get (n := 0) rfl)) (by omega) (by omega)).is) ?_
        refine ops_y hH17 rfl rfl (yv_lss rfl rfl) ?_
        refine ops_nil (thn_n ?_)
        by_cases hc18 : (k : Int) < ((nth (Q.tab l) (i : Int)).length : Int)
        · skip
          refine cond_t rfl (decide_eq_true hc18) ?_
          refine skip (thn_n (seq (block (seq ?_))))
          have hta := Q.tab_at (l := l) (i := i) (k := k) (by omega) (by omega)
          have htc := Q.C_small hw (by omega) (i := i) (k := i + k + 1) (by omega)
          refine region (ops_y hH17 rfl rfl (yv_move rfl) (ops_y hH17 rfl rfl (yv_move rfl) ?_))
          refine ops_y hH17 rfl rfl (yv_index T.sl45 rfl rfl (((show RowsAt p9 TT7 (Q.tab l) _ from hH17.get (n := 0) rfl)).1).is (by omega)) ?_
          refine ops_y hH17 rfl rfl (yv_load T.one30 rfl (fun _ hw => Rd.at (((show RowsAt p9 TT7 (Q.tab l) _ from hw.get (n := 0) rfl)).1) (i := (i : Int)) (by omega) (j := 0) rfl)) ?_
          refine ops_y hH17 rfl rfl (yv_move rfl) ?_
          refine ops_y hH17 rfl rfl (yv_index T.sl30 rfl rfl (RowsAt.at ((show RowsAt p9 TT7 (Q.tab l) _ from hH17.get (n := 0) rfl)) (by omega) (by omega)).is (by omega)) ?_
          refine ops_y hH17 rfl rfl (yv_load T.one2 rfl (fun _ hw => Rd.at (RowsAt.at ((show RowsAt p9 TT7 (Q.tab l) _ from hw.get (n := 0) rfl)) (by omega) (by omega)) (i := (k : Int)) (by omega) (j := 0) rfl)) ?_
          refine ops_y hH17 rfl rfl (yv_lss rfl rfl) ?_
          refine ops_y hH17 rfl rfl (yv_move rfl) ?_
          have hc19 : ¬ ((nth (nth (Q.tab l) (i : Int)) (k : Int)) < 0) := by omega
          refine guard_yes rfl rfl (decide_eq_false hc19) ?_
          refine ops_y hH17 rfl rfl (yv_move rfl) ?_
          refine guard_yes rfl rfl (decide_eq_false hc19) ?_
          refine ops_y hH17 rfl rfl (yv_move rfl) ?_
          refine guard_yes rfl rfl (decide_eq_false hc19) ?_
          refine ops_y hH17 rfl rfl (yv_index T.sl45 rfl rfl (((show RowsAt p9 TT7 (Q.tab l) _ from hH17.get (n := 0) rfl)).1).is (by omega)) ?_
          refine guard_yes rfl rfl (decide_eq_false hc19) ?_
          refine ops_y hH17 rfl rfl (yv_load T.one30 rfl (fun _ hw => Rd.at (((show RowsAt p9 TT7 (Q.tab l) _ from hw.get (n := 0) rfl)).1) (i := (i : Int)) (by omega) (j := 0) rfl)) ?_
          refine guard_yes rfl rfl (decide_eq_false hc19) ?_
          refine ops_y hH17 rfl rfl (yv_move rfl) ?_
          refine guard_yes rfl rfl (decide_eq_false hc19) ?_
          refine ops_y hH17 rfl rfl (yv_index T.sl30 rfl rfl (RowsAt.at ((show RowsAt p9 TT7 (Q.tab l) _ from hH17.get (n := 0) rfl)) (by omega) (by omega)).is (by omega)) ?_
          refine guard_yes rfl rfl (decide_eq_false hc19) ?_
          refine ops_y hH17 rfl rfl (yv_load T.one2 rfl (fun _ hw => Rd.at (RowsAt.at ((show RowsAt p9 TT7 (Q.tab l) _ from hw.get (n := 0) rfl)) (by omega) (by omega)) (i := (k : Int)) (by omega) (j := 0) rfl)) ?_
          refine guard_yes rfl rfl (decide_eq_false hc19) ?_
          refine ops_y hH17 rfl rfl (yv_gtr rfl rfl) ?_
          refine ops_y hH17 rfl rfl (yv_pick_f rfl (decide_eq_false hc19) rfl) ?_
          refine ops_nil (thn_n ?_)
          have hc20 : ¬ (1099511627776 < (nth (nth (Q.tab l) (i : Int)) (k : Int))) := by omega
          refine cond_f rfl (decide_eq_false hc20) ?_
          refine skip (blk_n (thn_n (region (ops_y hH17 rfl rfl (yv_move rfl) ?_))))
          refine ops_y hH17 rfl rfl (yv_add rfl rfl (by omega)) ?_
          refine ops_y hH17 rfl rfl (yv_assign rfl) (ops_nil ?_)
          refine lp_n (k + 1) (Sub.cons rfl (Sub.cons rfl (Sub.cons rfl (Sub.cons rfl (Sub.nil _))))) ?_ ?_
          · exact ⟨hH17, by omega⟩
          · first | (dsimp only; omega) | (show _ < _; omega)
        · skip
          refine cond_f rfl (decide_eq_false hc18) ?_
          refine exit (thn_x (lp_x (blk_here (blk_n (thn_n (region (ops_y hH17 rfl rfl (yv_move rfl) ?_)))))))
          refine ops_y hH17 rfl rfl (yv_add rfl rfl (by omega)) ?_
          refine ops_y hH17 rfl rfl (yv_assign rfl) (ops_nil ?_)
          refine lp_n (i + 1) (Sub.cons rfl (Sub.cons rfl (Sub.cons rfl (Sub.nil _)))) ?_ ?_
          · exact ⟨hH17, by omega⟩
          · first | (dsimp only; omega) | (show _ < _; omega)
    · skip
      refine cond_f rfl (decide_eq_false hc14) ?_
      refine exit (thn_x (lp_x (blk_here (thn_n (seq (region (ops_y hH13 rfl rfl (yv_move rfl) (ops_y hH13 rfl rfl (yv_assign rfl) (ops_y hH13 rfl rfl (yv_assign rfl) ?_)))))))))
      refine ops_nil (thn_n (ret ?_))
      refine fin (hH13.front (n := 1) rfl) (fun w' hf => (res2 rfl (show RV _ _ _ (.tmp 2) _ from rfl) (show RV _ _ _ (.tmp 3) _ from rfl))) (fun w' hf => ?_)
      exact ⟨_, rfl, _, hf.get (n := 0) rfl⟩

theorem c77 {b1 : Nat} {u : Value} {TT : List Hd} {RR : List (List Int)} {w : World} (ha : RowsAt u TT RR w) {a b : Int} (k1 : Bx b1 45 [u] w) (hle : a ≤ b) (ha0 : -1000000 ≤ a) (hb0 : b ≤ 1000000) (h1 : a < b → 0 ≤ a ∧ a < (RR.length : Int) ∧ b - a - 1 < ((nth RR a).length : Int))  :
    Fn Try.prog 77 [(.agg #[(.int .i64 a), (.int .i64 b)]), (.pointer (some ⟨b1, 0, none⟩))].toArray w (fun u _ => u = .int .i64 (Q.btw RR a b)) := by
  refine fn_of' (args := [(.agg #[(.int .i64 a), (.int .i64 b)]), (.pointer (some ⟨b1, 0, none⟩))]) Try.func77 rfl (ent Try.func77 (by kernel_rfl) rfl) rfl rfl (fun hH => ?_)
  have hl1 := ha.2.1
  refine seq (region ?_)
  refine op_box (us := [(.int .i64 a), (.int .i64 b)]) rfl rfl rfl hH (fun b1 w2 hH3 => ?_)
  refine ops_y hH3 rfl rfl (yv_assign rfl) (ops_nil (thn_n (seq (seq (region ?_)))))
  refine ops_y hH3 rfl rfl (yv_field T.f81_0 rfl) ?_
  refine ops_y hH3 rfl rfl (yv_load T.one3 rfl (fun _ hw => Heap.cellw hw (n := 0) rfl rfl)) ?_
  refine ops_y hH3 rfl rfl (yv_field T.f81_1 rfl) ?_
  refine ops_y hH3 rfl rfl (yv_load T.one3 rfl (fun _ hw => Heap.cellw hw (n := 0) rfl rfl)) ?_
  refine ops_y hH3 rfl rfl (yv_eql rfl rfl) ?_
  refine ops_nil (thn_n ?_)
  by_cases hc4 : a = b
  · skip
    refine cond_t rfl (decide_eq_true hc4) ?_
    refine seq (region (ops_y hH3 rfl rfl (yv_assign rfl) (ops_nil (thn_n (ret (thn_r ?_))))))
    have hH5 := (hH3.sub (List.Sublist.cons _ (List.Sublist.refl _)))
    refine fin hH5 (fun w' hf => (res1 rfl (show RV _ _ _ (.tmp 3) _ from rfl))) (fun w' hf => ?_)
    first | exact congrArg (Value.int .i64) (Q.btw_nil (by omega)).symm | exact congrArg (Value.int .i64) (Q.btw_at (by omega)).symm
  · skip
    refine cond_f rfl (decide_eq_false hc4) ?_
    refine skip (thn_n (seq ?_))
    obtain ⟨h2, h3, h4⟩ := h1 (by omega)
    refine region_draw (fun w' => Heap [bx b1 81 [(.int .i64 a), (.int .i64 b)], base w] w') T.mixed (fun w6 hr7 => ?_)
    have hH8 := hH3.redrawn hr7
    refine any_takes [0, 1, 2, 3, 4, 5, 6, 7, 8, 9, 10, 11, 12, 13] (by kernel_rfl) hH8 _ _ _ (by kernel_rfl) ?_
    refine qs_y rfl rfl (yv_load T.one45 rfl (fun _ hw => bx_cell (k1.now hw (n := 1) rfl) rfl)) ?_
    refine qs_y rfl rfl (yv_field T.f81_0 rfl) ?_
    refine qs_y rfl rfl (yv_load T.one3 rfl (fun _ hw => Heap.cellw hw (n := 0) rfl rfl)) ?_
    refine qs_y rfl rfl (yv_index T.sl45 rfl rfl ((ha.now hH8 (n := 1) rfl).1).is (by omega)) ?_
    refine qs_y rfl rfl (yv_load T.one30 rfl (fun _ hw => Rd.at ((ha.now hw (n := 1) rfl).1) (i := a) (by omega) (j := 0) rfl)) ?_
    refine qs_y rfl rfl (yv_field T.f81_1 rfl) ?_
    refine qs_y rfl rfl (yv_load T.one3 rfl (fun _ hw => Heap.cellw hw (n := 0) rfl rfl)) ?_
    refine qs_y rfl rfl (yv_field T.f81_0 rfl) ?_
    refine qs_y rfl rfl (yv_load T.one3 rfl (fun _ hw => Heap.cellw hw (n := 0) rfl rfl)) ?_
    refine qs_y rfl rfl (yv_sub rfl rfl (by omega)) ?_
    refine qs_y rfl rfl (yv_sub rfl rfl (by omega)) ?_
    refine qs_y rfl rfl (yv_index T.sl30 rfl rfl (RowsAt.at (ha.now hH8 (n := 1) rfl) (by omega) (by omega)).is (by omega)) ?_
    refine qs_y rfl rfl (yv_load T.one2 rfl (fun _ hw => Rd.at (RowsAt.at (ha.now hw (n := 1) rfl) (by omega) (by omega)) (i := (b - a) - 1) (by omega) (j := 0) rfl)) ?_
    refine qs_y rfl rfl (yv_assign rfl) (qs_nil ?_)
    refine any_done (by kernel_rfl) ?_
    refine thn_n (ret ?_)
    have hH9 := (hH8.sub (List.Sublist.cons _ (List.Sublist.refl _)))
    refine fin hH9 (fun w' hf => (res1 rfl (show RV _ _ _ (.tmp 3) _ from rfl))) (fun w' hf => ?_)
    first | exact congrArg (Value.int .i64) (Q.btw_nil (by omega)).symm | exact congrArg (Value.int .i64) (Q.btw_at (by omega)).symm

theorem c44 {v u : Value} {l : List Int} {TT : List Hd} {RR : List (List Int)} {w : World} (h0 : Rd encI 1 v l w) (ha : RowsAt u TT RR w) (hn : l.length ≤ 1000000) (hn2 : RR.length ≤ 1000000) (he1 : ∀ i : Nat, i < RR.length → (nth RR (i : Int)).length ≤ 1000000)  :
    Fn Try.prog 44 [v, u].toArray w (fun u _ => u = .tuple #[.int .i64 (Q.ckB l RR).1, .int .i64 (Q.ckB l RR).2]) := by
  refine fn_of' (args := [v, u]) Try.func44 rfl (ent Try.func44 (by kernel_rfl) rfl) rfl rfl (fun hH => ?_)
  have hl1 := ha.2.1
  refine seq (region ?_)
  refine op_box (us := [u]) rfl (SliceIs.cells ((ha.now hH (n := 0) rfl).1).is) rfl hH (fun b1 w2 hH3 => ?_)
  refine ops_y hH3 rfl rfl (yv_assign rfl) (ops_y hH3 rfl rfl (yv_assign rfl) (ops_nil (thn_n (seq ?_))))
  by_cases hc4 : Q.ckW l = 0
  · skip
    have hc0 : Q.ckW l = 0 := ‹_›
    obtain ⟨hl12, hw⟩ := Q.ckW_w hc0
    refine region (ops_y hH3 rfl rfl (yv_move rfl) ?_)
    refine op_fn rfl rfl rfl hH3 (c64g (h0.now hH3 (n := 1) rfl) (by omega) hc0) (fun u7 w5 lo8 hi9 hH6 hv10 => ?_)
    obtain ⟨rbR, hu, hrowR⟩ := hv10
    subst hu
    obtain ⟨mbR, esR, clockR, mR, hentsR, hfullR, hH11⟩ := Heap.fixMap hH6 (n := 0) rfl (fun w' h => by obtain ⟨rb', e, h⟩ := h; cases e; exact h)
    refine ops_y hH11 rfl rfl (yv_move rfl) (ops_y hH11 rfl rfl (yv_extract rfl rfl) (ops_y hH11 rfl rfl (yv_extract rfl rfl) (ops_y hH11 rfl rfl (yv_assign rfl) (ops_y hH11 rfl rfl (yv_assign rfl) (ops_nil (thn_n (seq (block (seq ?_)))))))))
    refine region (ops_y hH11 rfl rfl (yv_move rfl) ?_)
    refine ops_y hH11 rfl rfl (yv_neq rfl rfl) ?_
    refine ops_y hH11 rfl rfl (yv_assign rfl) (ops_nil (thn_n ?_))
    refine cond_f rfl rfl ?_
    refine seq (region ?_)
    refine ops_y hH11 rfl rfl (yv_load T.one45 rfl (fun _ hw => Heap.cellw hw (n := 1) rfl rfl)) ?_
    refine ops_y hH11 rfl rfl (yv_len T.sl45 rfl ((ha.now hH11 (n := 2) rfl).1).is) ?_
    refine ops_y hH11 rfl rfl (yv_move rfl) ?_
    refine ops_y hH11 rfl rfl (yv_len T.sl30 rfl (h0.now hH11 (n := 2) rfl).is) ?_
    refine ops_y hH11 rfl rfl (yv_neq rfl rfl) ?_
    refine ops_y hH11 rfl rfl (yv_assign rfl) (ops_nil (thn_n ?_))
    by_cases hc12 : (TT.length : Int) = (l.length : Int)
    · skip
      refine cond_f rfl (not_decide_n hc12) ?_
      refine skip (blk_n (thn_n (seq (seq (region ?_)))))
      refine ops_y hH11 rfl rfl (yv_load T.one45 rfl (fun _ hw => Heap.cellw hw (n := 1) rfl rfl)) ?_
      refine ops_y hH11 rfl rfl (yv_len T.sl45 rfl ((ha.now hH11 (n := 2) rfl).1).is) ?_
      refine ops_y hH11 rfl rfl (yv_move rfl) (ops_nil (thn_n (block ?_)))
      refine loop (S := Nat) (fun k => [(32, (.int .i64 (k : Int))), (0, v), (3, (.pointer (some ⟨b1, 0, none⟩))), (6, (.pointer (some ⟨rbR, 0, none⟩))), (30, u), (31, (.int .i64 (TT.length : Int)))]) (fun k w1 => Heap [⟨lo8, hi9, RowAt 87 rbR v mbR esR clockR⟩, bx b1 45 [u], base w] w1 ∧ k ≤ RR.length ∧ ∀ i : Nat, i < k → (nth RR (i : Int)).length = l.length - i) (fun k => RR.length - k) (0) (Sub.cons rfl (Sub.cons rfl (Sub.cons rfl (Sub.cons rfl (Sub.cons rfl (Sub.cons rfl (Sub.nil _))))))) ?_ ?_
      · exact ⟨hH11, by omega, fun i hi => absurd hi (Nat.not_lt_zero _)⟩
      · rintro k w13 ⟨hH14, hk, hall⟩
        show Holds _ _ _ _ _ [(32, (.int .i64 (k : Int))), (0, v), (3, (.pointer (some ⟨b1, 0, none⟩))), (6, (.pointer (some ⟨rbR, 0, none⟩))), (30, u), (31, (.int .i64 (TT.length : Int)))] _ _
        refine seq (region ?_)
        refine ops_y hH14 rfl rfl (yv_lss rfl rfl) ?_
        refine ops_nil (thn_n (seq ?_))
        by_cases hc15 : (k : Int) < (TT.length : Int)
        · skip
          refine cond_t rfl (decide_eq_true hc15) ?_
          refine skip (thn_n (seq (block (seq (region (ops_y hH14 rfl rfl (yv_move rfl) ?_))))))
          refine ops_y hH14 rfl rfl (yv_index T.sl45 rfl rfl ((ha.now hH14 (n := 2) rfl).1).is (by omega)) ?_
          refine ops_y hH14 rfl rfl (yv_load T.one30 rfl (fun _ hw => Rd.at ((ha.now hw (n := 2) rfl).1) (i := (k : Int)) (by omega) (j := 0) rfl)) ?_
          refine ops_y hH14 rfl rfl (yv_assign rfl) (ops_y hH14 rfl rfl (yv_assign rfl) (ops_nil (thn_n (seq ?_))))
          have hek := he1 k (by omega)
          refine region (ops_y hH14 rfl rfl (yv_move rfl) ?_)
          refine ops_y hH14 rfl rfl (yv_len T.sl30 rfl (RowsAt.at (ha.now hH14 (n := 2) rfl) (by omega) (by omega)).is) ?_
          refine ops_y hH14 rfl rfl (yv_move rfl) ?_
          refine ops_y hH14 rfl rfl (yv_len T.sl30 rfl (h0.now hH14 (n := 2) rfl).is) ?_
          refine ops_y hH14 rfl rfl (yv_move rfl) ?_
          refine ops_y hH14 rfl rfl (yv_sub rfl rfl (by omega)) ?_
          refine ops_y hH14 rfl rfl (yv_neq rfl rfl) ?_
          refine ops_nil (thn_n ?_)
          by_cases hc16 : ((nth RR (k : Int)).length : Int) = ((l.length : Int) - (k : Int))
          · skip
            refine cond_f rfl (not_decide_n hc16) ?_
            refine skip (blk_n (thn_n (region ?_)))
            refine ops_y hH14 rfl rfl (yv_add rfl rfl (by omega)) ?_
            refine ops_y hH14 rfl rfl (yv_move rfl) (ops_nil ?_)
            refine lp_n (k + 1) (Sub.cons rfl (Sub.cons rfl (Sub.cons rfl (Sub.cons rfl (Sub.cons rfl (Sub.cons rfl (Sub.nil _))))))) ?_ ?_
            · exact ⟨hH14, by omega, fun i hi => by rcases Nat.lt_or_ge i k with h | h; exact hall i h; rw [show i = k by omega]; omega⟩
            · first | (dsimp only; omega) | (show _ < _; omega)
          · skip
            have hns : ¬ Q.Shaped l RR := fun h => by have := h.2 k (by omega); omega
            refine cond_t rfl (not_decide_t hc16) ?_
            refine seq (region (ops_y hH14 rfl rfl (yv_assign rfl) (ops_y hH14 rfl rfl (yv_assign rfl) (ops_nil (thn_n (ret (blk_r (thn_r (lp_r ?_)))))))))
            refine blk_r (thn_r ?_)
            have hH17 := (hH14.sub (List.Sublist.cons _ (List.Sublist.cons _ (List.Sublist.refl _))))
            refine fin hH17 (fun w' hf => (res2 rfl (show RV _ _ _ (.tmp 4) _ from rfl) (show RV _ _ _ (.tmp 5) _ from rfl))) (fun w' hf => ?_)
            first | exact tup2 (Q.cb1 hcn) | exact tup2 (Q.cb2 hc0 hns) | exact tup2 (Q.cb3 hc0 hS hnz) | exact tup2 (Q.cb4 hc0 hS hZ hnh) | exact tup2 (Q.cb5 hc0 hS hZ hHeld)
        · skip
          refine cond_f rfl (decide_eq_false hc15) ?_
          refine exit (thn_x (lp_x (blk_here (thn_n (seq (seq ?_))))))
          have hS : Q.Shaped l RR := ⟨by omega, fun i hi => hall i (by omega)⟩
          refine region ?_
          refine ops_y hH14 rfl rfl (yv_load T.one45 rfl (fun _ hw => Heap.cellw hw (n := 1) rfl rfl)) ?_
          refine ops_y hH14 rfl rfl (yv_len T.sl45 rfl ((ha.now hH14 (n := 2) rfl).1).is) ?_
          refine ops_y hH14 rfl rfl (yv_move rfl) (ops_nil (thn_n (block ?_)))
          refine loop (S := Nat) (fun k => [(47, (.int .i64 (k : Int))), (3, (.pointer (some ⟨b1, 0, none⟩))), (6, (.pointer (some ⟨rbR, 0, none⟩))), (45, u), (46, (.int .i64 (TT.length : Int)))]) (fun k w1 => Heap [⟨lo8, hi9, RowAt 87 rbR v mbR esR clockR⟩, bx b1 45 [u], base w] w1 ∧ k ≤ RR.length ∧ ∀ i : Nat, i < k → ∀ x ∈ nth RR (i : Int), 0 ≤ x ∧ x ≤ 1099511627776) (fun k => RR.length - k) (0) (Sub.cons rfl (Sub.cons rfl (Sub.cons rfl (Sub.cons rfl (Sub.cons rfl (Sub.nil _)))))) ?_ ?_
          · exact ⟨hH14, by omega, fun i hi => absurd hi (Nat.not_lt_zero _)⟩
          · rintro k w18 ⟨hH19, hk, hall2⟩
            show Holds _ _ _ _ _ [(47, (.int .i64 (k : Int))), (3, (.pointer (some ⟨b1, 0, none⟩))), (6, (.pointer (some ⟨rbR, 0, none⟩))), (45, u), (46, (.int .i64 (TT.length : Int)))] _ _
            refine seq (region ?_)
            refine ops_y hH19 rfl rfl (yv_lss rfl rfl) ?_
            refine ops_nil (thn_n (seq ?_))
            by_cases hc20 : (k : Int) < (TT.length : Int)
            · skip
              refine cond_t rfl (decide_eq_true hc20) ?_
              refine skip (thn_n (seq (block (seq (region ?_)))))
              refine ops_y hH19 rfl rfl (yv_index T.sl45 rfl rfl ((ha.now hH19 (n := 2) rfl).1).is (by omega)) ?_
              refine ops_y hH19 rfl rfl (yv_load T.one30 rfl (fun _ hw => Rd.at ((ha.now hw (n := 2) rfl).1) (i := (k : Int)) (by omega) (j := 0) rfl)) ?_
              refine ops_y hH19 rfl rfl (yv_assign rfl) (ops_nil (thn_n (seq ?_)))
              have hek := he1 k (by omega)
              refine region (ops_y hH19 rfl rfl (yv_move rfl) ?_)
              refine op_fnV rfl rfl rfl hH19 (c58 (lo := 0) (hi := 1099511627776) (RowsAt.at (ha.now hH19 (n := 2) rfl) (by omega) (by omega)) (by omega)) (fun w21 hH22 => ?_)
              refine ops_y hH22 rfl rfl (yv_not rfl) ?_
              refine ops_nil (thn_n ?_)
              by_cases hc23 : ∀ x ∈ (nth RR (k : Int)), 0 ≤ x ∧ x ≤ 1099511627776
              · skip
                refine cond_f rfl (not_decide_n hc23) ?_
                refine skip (blk_n (thn_n (region ?_)))
                refine ops_y hH22 rfl rfl (yv_add rfl rfl (by omega)) ?_
                refine ops_y hH22 rfl rfl (yv_move rfl) (ops_nil ?_)
                refine lp_n (k + 1) (Sub.cons rfl (Sub.cons rfl (Sub.cons rfl (Sub.cons rfl (Sub.cons rfl (Sub.nil _)))))) ?_ ?_
                · exact ⟨hH22, by omega, fun i hi => by rcases Nat.lt_or_ge i k with h | h; exact hall2 i h; rw [show i = k by omega]; assumption⟩
                · first | (dsimp only; omega) | (show _ < _; omega)
              · skip
                have hnz : ¬ Q.Sized l RR := fun h => (show ¬ ∀ x ∈ nth RR (k : Int), 0 ≤ x ∧ x ≤ 1099511627776 by assumption) (h k (by omega))
                refine cond_t rfl (not_decide_t hc23) ?_
                refine seq (region (ops_y hH22 rfl rfl (yv_assign rfl) (ops_y hH22 rfl rfl (yv_assign rfl) (ops_nil (thn_n (ret (blk_r (thn_r (lp_r ?_)))))))))
                refine blk_r (thn_r ?_)
                have hH24 := (hH22.sub (List.Sublist.cons _ (List.Sublist.cons _ (List.Sublist.refl _))))
                refine fin hH24 (fun w' hf => (res2 rfl (show RV _ _ _ (.tmp 4) _ from rfl) (show RV _ _ _ (.tmp 5) _ from rfl))) (fun w' hf => ?_)
                first | exact tup2 (Q.cb1 hcn) | exact tup2 (Q.cb2 hc0 hns) | exact tup2 (Q.cb3 hc0 hS hnz) | exact tup2 (Q.cb4 hc0 hS hZ hnh) | exact tup2 (Q.cb5 hc0 hS hZ hHeld)
            · skip
              refine cond_f rfl (decide_eq_false hc20) ?_
              refine exit (thn_x (lp_x (blk_here (thn_n (seq ?_)))))
              have hZ : Q.Sized l RR := fun i hi => hall2 i (by omega)
              refine region ?_
              refine ops_y hH19 rfl rfl (yv_func rfl rfl) ?_
              refine ops_y hH19 rfl rfl (yv_assign rfl) (ops_nil (thn_n (seq (seq (region (ops_y hH19 rfl rfl (yv_move rfl) ?_))))))
              refine ops_y hH19 rfl rfl (yv_nilck rfl) ?_
              refine ops_y hH19 rfl rfl (yv_field T.f87_1 rfl) ?_
              refine ops_y hH19 rfl rfl (yv_load T.one85 rfl (fun _ hw => bx_cell ((show RowAt 87 rbR v mbR esR clockR _ from hw.get (n := 0) rfl).1) rfl)) ?_
              refine op_range T.m85.und rfl rfl hH19 (show RowAt 87 rbR v mbR esR clockR _ from hH19.get (n := 0) rfl).2 (fun r25 w26 hH27 => ?_)
              refine ops_nil (thn_n (block ?_))
              refine loop (S := Array Nat) (fun seen => [(6, (.pointer (some ⟨rbR, 0, none⟩))), (12, (.func (.func 77) #[] #[(.pointer (some ⟨b1, 0, none⟩))])), (60, (.pointer (some ⟨r25, 0, none⟩)))]) (fun seen w1 => Heap [raw r25 (.mapIter (some mbR) clockR seen clockR), ⟨lo8, hi9, RowAt 87 rbR v mbR esR clockR⟩, bx b1 45 [u], base w] w1 ∧ Q.Ups l RR esR seen) (fun seen => unseen esR seen) (#[]) (Sub.cons rfl (Sub.cons rfl (Sub.cons rfl (Sub.nil _)))) ?_ ?_
              · exact ⟨hH27, Q.Ups.start⟩
              · rintro seen w28 ⟨hH29, hU⟩
                show Holds _ _ _ _ _ [(6, (.pointer (some ⟨rbR, 0, none⟩))), (12, (.func (.func 77) #[] #[(.pointer (some ⟨b1, 0, none⟩))])), (60, (.pointer (some ⟨r25, 0, none⟩)))] _ _
                refine seq (region ?_)
                refine op_next rfl rfl hH29 (show RowAt 87 rbR v mbR esR clockR _ from hH29.get (n := 1) rfl).2 (k := 0) rfl hentsR.born (fun hall30 w34 hH35 => ?_) (fun e31 he32 hns33 w34 hH35 => ?_)
                · skip
                  have hHeld := hU.done hentsR hfullR hall30
                  refine ops_y hH35 rfl rfl (yv_extract rfl rfl) (ops_nil (thn_n (seq ?_)))
                  refine cond_f rfl rfl ?_
                  refine exit (thn_x (lp_x (blk_here (thn_n (seq ?_)))))
                  have hSl := hS.1
                  refine region (ops_y hH35 rfl rfl (yv_move rfl) (ops_y hH35 rfl rfl (yv_move rfl) ?_))
                  refine ops_y hH35 rfl rfl (yv_nilck rfl) ?_
                  refine ops_y hH35 rfl rfl (yv_field T.f87_0 rfl) ?_
                  refine ops_y hH35 rfl rfl (yv_loadA (cs := [v]) T.agg84 rfl rfl (fun _ hw => bx_cells ((show RowAt 87 rbR v mbR esR clockR _ from hw.get (n := 1) rfl).1) (k := 0) rfl)) ?_
                  refine op_fnV rfl rfl rfl hH35 (c66 (h0.now hH35 (n := 3) rfl)) (fun w36 hH37 => ?_)
                  refine op_fnV rfl rfl rfl hH37 (c77 (a := 0) (b := (l.length : Int)) (ha.now hH37 (n := 3) rfl) (Heap.bxw hH37 (n := 2) rfl) (by omega) (by omega) (by omega) (fun hab => hS.at (by omega) (by omega) hab)) (fun w38 hH39 => ?_)
                  refine ops_y hH39 rfl rfl (yv_assign rfl) (ops_y hH39 rfl rfl (yv_assign rfl) (ops_nil (thn_n (ret ?_))))
                  have hH40 := (hH39.sub (List.Sublist.cons _ (List.Sublist.cons _ (List.Sublist.cons _ (List.Sublist.refl _)))))
                  refine fin hH40 (fun w' hf => (res2 rfl (show RV _ _ _ (.tmp 4) _ from rfl) (show RV _ _ _ (.tmp 5) _ from rfl))) (fun w' hf => ?_)
                  first | exact tup2 (Q.cb1 hcn) | exact tup2 (Q.cb2 hc0 hns) | exact tup2 (Q.cb3 hc0 hS hnz) | exact tup2 (Q.cb4 hc0 hS hZ hnh) | exact tup2 (Q.cb5 hc0 hS hZ hHeld)
                · skip
                  obtain ⟨ai, ak, hkey, ⟨xv, hval⟩, hak1, hak2⟩ := Q.Full.entry hentsR hfullR he32
                  have hns := hns33
                  have hen := he32
                  refine ops_y hH35 rfl rfl (yv_extract rfl rfl) (ops_nil (thn_n (seq ?_)))
                  refine cond_t rfl rfl ?_
                  refine skip (thn_n (block (seq (region ?_))))
                  refine ops_y hH35 rfl rfl (yv_entryK hkey hval rfl he32 hentsR.bornNd (fun _ hw => (show RowAt 87 rbR v mbR esR clockR _ from hw.get (n := 1) rfl).2) (fun _ hw => Heap.raww hw (n := 0) rfl)) ?_
                  refine ops_y hH35 rfl rfl (yv_extract rfl rfl) ?_
                  refine op_alloc (z := (.agg #[(.int .i64 0), (.int .i64 0)])) (us := [(.int .i64 0), (.int .i64 0)]) (fun _ => by kernel_rfl) rfl rfl hH35 (fun b41 w42 hH43 => ?_)
                  refine op_store (n := 0) (j := 0) (us := [(.int .i64 (ai : Int)), (.int .i64 (ak : Int))]) rfl rfl hH43 rfl T.sz81 rfl rfl rfl (by rfl) (fun w44 hH45 => ?_)
                  refine ops_nil (thn_n (seq (region ?_)))
                  refine ops_y hH45 rfl rfl (yv_field T.f81_0 rfl) ?_
                  refine ops_y hH45 rfl rfl (yv_load T.one3 rfl (fun _ hw => Heap.cellw hw (n := 0) rfl rfl)) ?_
                  refine ops_y hH45 rfl rfl (yv_assign rfl) (ops_nil (thn_n (block ?_)))
                  refine loop (S := Nat) (fun j => [(14, (.int .i64 ((ai + j : Nat) : Int))), (6, (.pointer (some ⟨rbR, 0, none⟩))), (12, (.func (.func 77) #[] #[(.pointer (some ⟨b1, 0, none⟩))])), (13, (.pointer (some ⟨b41, 0, none⟩))), (60, (.pointer (some ⟨r25, 0, none⟩)))]) (fun j w1 => Heap [bx b41 81 [(.int .i64 (ai : Int)), (.int .i64 (ak : Int))], raw r25 (.mapIter (some mbR) clockR (seen.push e31.born) clockR), ⟨lo8, hi9, RowAt 87 rbR v mbR esR clockR⟩, bx b1 45 [u], base w] w1 ∧ j ≤ ak - ai ∧ ∀ r : Nat, r < ai + j → ai ≤ r → Q.btw RR ai ak ≤ (Q.P l ak - Q.P l ai) + Q.btw RR ai r + Q.btw RR (r + 1) ak) (fun j => ak - ai - j) (0) (Sub.cons (congrArg (fun z : Int => some (Value.int .i64 z)) (by omega)) (Sub.cons rfl (Sub.cons rfl (Sub.cons rfl (Sub.cons rfl (Sub.nil _)))))) ?_ ?_
                  · exact ⟨hH45, by omega, fun r h1 h2 => by omega⟩
                  · rintro j w46 ⟨hH47, hj, hkr⟩
                    show Holds _ _ _ _ _ [(14, (.int .i64 ((ai + j : Nat) : Int))), (6, (.pointer (some ⟨rbR, 0, none⟩))), (12, (.func (.func 77) #[] #[(.pointer (some ⟨b1, 0, none⟩))])), (13, (.pointer (some ⟨b41, 0, none⟩))), (60, (.pointer (some ⟨r25, 0, none⟩)))] _ _
                    refine seq (seq (region (ops_y hH47 rfl rfl (yv_move rfl) ?_)))
                    refine ops_y hH47 rfl rfl (yv_field T.f81_1 rfl) ?_
                    refine ops_y hH47 rfl rfl (yv_load T.one3 rfl (fun _ hw => Heap.cellw hw (n := 0) rfl rfl)) ?_
                    refine ops_y hH47 rfl rfl (yv_lss rfl rfl) ?_
                    refine ops_nil (thn_n ?_)
                    by_cases hc48 : ((ai + j : Nat) : Int) < (ak : Int)
                    · skip
                      refine cond_t rfl (decide_eq_true hc48) ?_
                      refine skip (thn_n (seq (block (seq ?_))))
                      have hpb := Q.P_bd hw (i := ai) (ak - ai) (by omega)
                      rw [show ai + (ak - ai) = ak by omega] at hpb
                      have hb1 := hZ.bd hS (a := ai) (b := ai + j) (by omega)
                      have hb2 : 0 ≤ Q.btw RR (((ai + j : Nat) : Int) + 1) (ak : Int) ∧ Q.btw RR (((ai + j : Nat) : Int) + 1) (ak : Int) ≤ 1099511627776 := hZ.bd hS (a := ai + j + 1) (b := ak) (by omega)
                      refine region_draw (fun w' => Heap [bx b41 81 [(.int .i64 (ai : Int)), (.int .i64 (ak : Int))], raw r25 (.mapIter (some mbR) clockR (seen.push e31.born) clockR), ⟨lo8, hi9, RowAt 87 rbR v mbR esR clockR⟩, bx b1 45 [u], base w] w') T.mixed (fun w49 hr50 => ?_)
                      have hH51 := hH47.redrawn hr50
                      refine any_takes [0, 1, 3, 4, 5, 6, 7, 9, 10, 11, 12, 13, 16, 17, 18, 19, 20, 21] (by kernel_rfl) hH51 _ _ _ (by kernel_rfl) ?_
                      refine qs_y rfl rfl (yv_move rfl) ?_
                      refine qs_y rfl rfl (yv_loadA (cs := [(.int .i64 (ai : Int)), (.int .i64 (ak : Int))]) T.agg81 rfl rfl (fun _ hw => Heap.cellsw hw (n := 0) rfl (k := 0) rfl)) ?_
                      refine qs_y rfl rfl (yv_move rfl) ?_
                      refine qs_y rfl rfl (yv_nilck rfl) ?_
                      refine qs_y rfl rfl (yv_field T.f87_0 rfl) ?_
                      refine qs_y rfl rfl (yv_loadA (cs := [v]) T.agg84 rfl rfl (fun _ hw => bx_cells ((show RowAt 87 rbR v mbR esR clockR _ from hw.get (n := 2) rfl).1) (k := 0) rfl)) ?_
                      refine qs_y rfl rfl (yv_loadA (cs := [(.int .i64 (ai : Int)), (.int .i64 (ak : Int))]) T.agg81 rfl rfl (fun _ hw => Heap.cellsw hw (n := 0) rfl (k := 0) rfl)) ?_
                      refine qs_y rfl rfl (yv_move rfl) ?_
                      refine qs_y rfl rfl (yv_field T.f81_0 rfl) ?_
                      refine qs_y rfl rfl (yv_load T.one3 rfl (fun _ hw => Heap.cellw hw (n := 0) rfl rfl)) ?_
                      refine qs_y rfl rfl (yv_move rfl) ?_
                      refine qs_y rfl rfl (yv_build (v := (.agg #[(.int .i64 (ai : Int)), (.int .i64 ((ai + j : Nat) : Int))])) (us := [(0, (.int .i64 (ai : Int))), (1, (.int .i64 ((ai + j : Nat) : Int)))]) (fun a ha => by simp [ha.ev (show ev _ (.tmp 84) = some _ from rfl), ha.ev (show ev _ (.tmp 85) = some _ from rfl)]) (fun w => by kernel_rfl)) ?_
                      refine qs_y rfl rfl (yv_move rfl) (qs_y rfl rfl (yv_move rfl) ?_)
                      refine qs_y rfl rfl (yv_add rfl rfl (by omega)) ?_
                      refine qs_y rfl rfl (yv_field T.f81_1 rfl) ?_
                      refine qs_y rfl rfl (yv_load T.one3 rfl (fun _ hw => Heap.cellw hw (n := 0) rfl rfl)) ?_
                      refine qs_y rfl rfl (yv_build (v := (.agg #[(.int .i64 (((ai + j : Nat) : Int) + 1)), (.int .i64 (ak : Int))])) (us := [(0, (.int .i64 (((ai + j : Nat) : Int) + 1))), (1, (.int .i64 (ak : Int)))]) (fun a ha => by simp [ha.ev (show ev _ (.tmp 91) = some _ from rfl), ha.ev (show ev _ (.tmp 93) = some _ from rfl)]) (fun w => by kernel_rfl)) ?_
                      refine qs_nil ?_
                      refine any_all [2] (by kernel_rfl) rfl ?_
                      refine ⟨⟨_, rfl, ?_⟩, trivial⟩
                      · skip
                        refine op_fnV rfl rfl rfl hH51 (c77 (a := (ai : Int)) (b := (ak : Int)) (ha.now hH51 (n := 4) rfl) (Heap.bxw hH51 (n := 3) rfl) (by omega) (by omega) (by omega) (fun hab => hS.at (by omega) (by omega) hab)) (fun w52 hH53 => ?_)
                        refine ops_nil ?_
                        refine ⟨hH53, ?_⟩
                        refine any_all [8] (by kernel_rfl) rfl ?_
                        refine ⟨⟨_, rfl, ?_⟩, trivial⟩
                        · skip
                          refine op_fnV rfl rfl rfl hH53 (c78 (i := ai) (k := ak) (h0.now hH53 (n := 4) rfl) hw (by omega) (by omega) (by omega)) (fun w54 hH55 => ?_)
                          refine ops_nil ?_
                          refine ⟨hH55, ?_⟩
                          refine any_all [14] (by kernel_rfl) rfl ?_
                          refine ⟨⟨_, rfl, ?_⟩, trivial⟩
                          · skip
                            refine op_fnV rfl rfl rfl hH55 (c77 (a := (ai : Int)) (b := ((ai + j : Nat) : Int)) (ha.now hH55 (n := 4) rfl) (Heap.bxw hH55 (n := 3) rfl) (by omega) (by omega) (by omega) (fun hab => hS.at (by omega) (by omega) hab)) (fun w56 hH57 => ?_)
                            refine ops_nil ?_
                            refine ⟨hH57, ?_⟩
                            refine any_takes [15] (by kernel_rfl) hH57 _ _ _ (by kernel_rfl) ?_
                            refine qs_y rfl rfl (yv_add rfl rfl (by omega)) ?_
                            refine qs_nil ?_
                            refine any_all [22] (by kernel_rfl) rfl ?_
                            refine ⟨⟨_, rfl, ?_⟩, trivial⟩
                            · skip
                              refine op_fnV rfl rfl rfl hH57 (c77 (a := ((ai + j : Nat) : Int) + 1) (b := (ak : Int)) (ha.now hH57 (n := 4) rfl) (Heap.bxw hH57 (n := 3) rfl) (by omega) (by omega) (by omega) (fun hab => hS.at (by omega) (by omega) hab)) (fun w58 hH59 => ?_)
                              refine ops_nil ?_
                              refine ⟨hH59, ?_⟩
                              refine any_takes [23, 24] (by kernel_rfl) hH59 _ _ _ (by kernel_rfl) ?_
                              refine qs_y rfl rfl (yv_add rfl rfl (by omega)) ?_
                              refine qs_y rfl rfl (yv_gtr rfl rfl) ?_
                              refine qs_nil ?_
                              refine any_done (by kernel_rfl) ?_
                              refine thn_n ?_
                              by_cases hc60 : (((Q.P l ak - Q.P l ai) + (Q.btw RR (ai : Int) ((ai + j : Nat) : Int))) + (Q.btw RR (((ai + j : Nat) : Int) + 1) (ak : Int))) < (Q.btw RR (ai : Int) (ak : Int))
                              · skip
                                have hnh : ¬ Q.Held l RR := fun h => by have := h ak (by omega) ai (by omega) (ai + j) (by omega) (by omega); omega
                                refine cond_t rfl (decide_eq_true hc60) ?_
                                refine seq (region (ops_y hH59 rfl rfl (yv_assign rfl) (ops_y hH59 rfl rfl (yv_assign rfl) (ops_nil (thn_n (ret (blk_r (thn_r (lp_r ?_)))))))))
                                refine blk_r (blk_r (lp_r (blk_r (thn_r ?_))))
                                have hH61 := (hH59.sub (List.Sublist.cons _ (List.Sublist.cons _ (List.Sublist.cons _ (List.Sublist.cons _ (List.Sublist.refl _))))))
                                refine fin hH61 (fun w' hf => (res2 rfl (show RV _ _ _ (.tmp 4) _ from rfl) (show RV _ _ _ (.tmp 5) _ from rfl))) (fun w' hf => ?_)
                                first | exact tup2 (Q.cb1 hcn) | exact tup2 (Q.cb2 hc0 hns) | exact tup2 (Q.cb3 hc0 hS hnz) | exact tup2 (Q.cb4 hc0 hS hZ hnh) | exact tup2 (Q.cb5 hc0 hS hZ hHeld)
                              · skip
                                refine cond_f rfl (decide_eq_false hc60) ?_
                                refine skip (blk_n (thn_n (region (ops_y hH59 rfl rfl (yv_move rfl) ?_))))
                                refine ops_y hH59 rfl rfl (yv_add rfl rfl (by omega)) ?_
                                refine ops_y hH59 rfl rfl (yv_assign rfl) (ops_nil ?_)
                                refine lp_n (j + 1) (Sub.cons (congrArg (fun z : Int => some (Value.int .i64 z)) (by omega)) (Sub.cons rfl (Sub.cons rfl (Sub.cons rfl (Sub.cons rfl (Sub.nil _)))))) ?_ ?_
                                · exact ⟨hH59, by omega, fun r h1 h2 => by rcases Nat.lt_or_ge r (ai + j) with h | h; exact hkr r h h2; rw [show r = ai + j by omega]; omega⟩
                                · first | (dsimp only; omega) | (show _ < _; omega)
                    · skip
                      refine cond_f rfl (decide_eq_false hc48) ?_
                      refine exit (thn_x (lp_x (blk_here (blk_n ?_))))
                      have hH62 := (hH47.sub (List.Sublist.cons _ (List.Sublist.refl _)))
                      refine lp_n (seen.push e31.born) (Sub.cons rfl (Sub.cons rfl (Sub.cons rfl (Sub.nil _)))) ?_ ?_
                      · exact ⟨hH62, hU.next hentsR hen hkey (fun r h1 h2 => hkr r (by omega) h2)⟩
                      · show _ < _; exact unseen_lt hen hns
    · skip
      have hns : ¬ Q.Shaped l RR := fun h => by have := h.1; omega
      refine cond_t rfl (not_decide_t hc12) ?_
      refine seq (region (ops_y hH11 rfl rfl (yv_assign rfl) (ops_y hH11 rfl rfl (yv_assign rfl) (ops_nil (thn_n (ret (blk_r (thn_r ?_))))))))
      have hH63 := (hH11.sub (List.Sublist.cons _ (List.Sublist.cons _ (List.Sublist.refl _))))
      refine fin hH63 (fun w' hf => (res2 rfl (show RV _ _ _ (.tmp 4) _ from rfl) (show RV _ _ _ (.tmp 5) _ from rfl))) (fun w' hf => ?_)
      first | exact tup2 (Q.cb1 hcn) | exact tup2 (Q.cb2 hc0 hns) | exact tup2 (Q.cb3 hc0 hS hnz) | exact tup2 (Q.cb4 hc0 hS hZ hnh) | exact tup2 (Q.cb5 hc0 hS hZ hHeld)
  · skip
    have hcn : ¬ Q.ckW l = 0 := ‹_›
    refine region (ops_y hH3 rfl rfl (yv_move rfl) ?_)
    refine op_fnV rfl rfl rfl hH3 (c64b (h0.now hH3 (n := 1) rfl) (by omega) hcn) (fun w64 hH65 => ?_)
    refine ops_y hH65 rfl rfl (yv_move rfl) (ops_y hH65 rfl rfl (yv_extract rfl rfl) (ops_y hH65 rfl rfl (yv_extract rfl rfl) (ops_y hH65 rfl rfl (yv_assign rfl) (ops_y hH65 rfl rfl (yv_assign rfl) (ops_nil (thn_n (seq (block (seq ?_)))))))))
    refine region (ops_y hH65 rfl rfl (yv_move rfl) ?_)
    refine ops_y hH65 rfl rfl (yv_neq rfl rfl) ?_
    refine ops_y hH65 rfl rfl (yv_assign rfl) (ops_nil (thn_n ?_))
    have hc66 : ¬ ((Q.ckW l) = 0) := hcn
    refine cond_t rfl (not_decide_t hc66) ?_
    refine seq (region (ops_y hH65 rfl rfl (yv_move rfl) (ops_y hH65 rfl rfl (yv_assign rfl) (ops_y hH65 rfl rfl (yv_assign rfl) (ops_nil (thn_n (ret (blk_r (thn_r ?_)))))))))
    have hH67 := (hH65.sub (List.Sublist.cons _ (List.Sublist.refl _)))
    refine fin hH67 (fun w' hf => (res2 rfl (show RV _ _ _ (.tmp 4) _ from rfl) (show RV _ _ _ (.tmp 5) _ from rfl))) (fun w' hf => ?_)
    first | exact tup2 (Q.cb1 hcn) | exact tup2 (Q.cb2 hc0 hns) | exact tup2 (Q.cb3 hc0 hS hnz) | exact tup2 (Q.cb4 hc0 hS hZ hnh) | exact tup2 (Q.cb5 hc0 hS hZ hHeld)

end Go.Fip

set_option linter.unusedVariables false
set_option linter.unusedSimpArgs false
set_option linter.unusedSectionVars false
set_option linter.unnecessarySimpa false
namespace Go.Fip
open Go.Proofs Go.RowKit

theorem yv_shl2 {P : Program} {N : Nat} {ds : List Deferred} {env : Env} {S : World → Prop} {x y : Operand} {T T' : TypeId} {n m r : Int} (hx : ev env x = some (.int .i64 m)) (hy : ev env y = some (.int .i64 n)) (h0 : 0 ≤ n ∧ n ≤ 60) (hm : IntKind.i64.wrap (m * 2 ^ n.toNat) = r) : Yv P N ds env (.binOp .shl T x y T') (.int .i64 r) S := fun act hact w _ _ _ _ _ _ => by
  have e := shift_shl .i64 .i64 m n h0.1 (show n ≤ IntKind.i64.bits by show n ≤ 64; omega)
  simp only [execOp, hact.ev hx, hact.ev hy, eqGuard, binOp, Sem.run_bind]
  rw [e, hm]
  rfl

theorem c94 {v u : Value} {l m : List Int} {w : World} (h0 : Rd encI 1 v l w) (h1 : Rd encI 1 u m w) (hn : l.length ≤ 1000000) (hn2 : m.length ≤ 1000000)  :
    Fn Try.prog 94 [v, u].toArray w (fun u _ => u = .bool (decide (Q.cmpL l m < 0))) := by
  refine fn_of' (args := [v, u]) Try.func94 rfl (ent Try.func94 (by kernel_rfl) rfl) rfl rfl (fun hH => ?_)
  refine seq (region (ops_y hH rfl rfl (yv_assign rfl) (ops_nil (thn_n (seq (region (ops_y hH rfl rfl (yv_move rfl) (ops_y hH rfl rfl (yv_move rfl) ?_))))))))
  refine op_fnV rfl rfl rfl hH (c75 (h0.now hH (n := 0) rfl) (h1.now hH (n := 0) rfl) (by omega) (by omega)) (fun w1 hH2 => ?_)
  refine ops_y hH2 rfl rfl (yv_lss rfl rfl) ?_
  refine ops_y hH2 rfl rfl (yv_assign rfl) (ops_nil (thn_n (ret ?_)))
  refine fin hH2 (fun w' hf => (res1 rfl (show RV _ _ _ (.tmp 4) _ from rfl))) (fun w' hf => ?_)
  rfl

theorem c92b {u : Value} {TT : List Hd} {RR : List (List Int)} {w : World} (ha : RowsAt u TT RR w) (hn : 1 ≤ RR.length) (hn2 : RR.length ≤ 1000000) (he1 : ∀ i : Nat, i < RR.length → (nth RR (i : Int)).length ≤ 1000000)  :
    Fn Try.prog 92 [u, (.func (.func 94) #[] #[])].toArray w (fun x _ => ∃ j : Nat, j < TT.length ∧ x = sv (nth TT (j : Int)) ∧ nth RR (j : Int) = Q.minT RR) := by
  refine fn_of' (args := [u, (.func (.func 94) #[] #[])]) Try.func92 rfl (ent Try.func92 (by kernel_rfl) rfl) rfl rfl (fun hH => ?_)
  have hl1 := ha.2.1
  have hd : (TT.drop 1).length = TT.length - 1 := List.length_drop
  have hd2 : (RR.drop 1).length = RR.length - 1 := List.length_drop
  refine seq (region (ops_y hH rfl rfl (yv_assign rfl) (ops_nil (thn_n (seq (region (ops_y hH rfl rfl (yv_move rfl) ?_)))))))
  refine ops_y hH rfl rfl (yv_index T.sl100 rfl rfl ((ha.now hH (n := 0) rfl).1).is (by omega)) ?_
  refine ops_y hH rfl rfl (yv_load T.one22 rfl (fun _ hw => Rd.at ((ha.now hw (n := 0) rfl).1) (i := 0) (by omega) (j := 0) rfl)) ?_
  refine ops_y hH rfl rfl (yv_assign rfl) (ops_nil (thn_n (seq (seq (region (ops_y hH rfl rfl (yv_move rfl) ?_))))))
  refine ops_y hH rfl rfl (yv_cut_lo T.sl100 rfl rfl ((ha.now hH (n := 0) rfl).1).is (by omega)) ?_
  refine ops_y hH rfl rfl (yv_len T.sl100 rfl (Rd.from ((ha.now hH (n := 0) rfl).1) (lo := 1) (by omega)).is) ?_
  refine ops_y hH rfl rfl (yv_move rfl) (ops_nil (thn_n (block ?_)))
  refine loop (S := Nat × Nat) (fun (k, q) => [(14, (.int .i64 (k : Int))), (5, (sv (nth TT (q : Int)))), (1, (.func (.func 94) #[] #[])), (4, (.slice none 0 0)), (12, (cutv u 1 1 TT.length)), (13, (.int .i64 ((TT.drop 1).length : Int)))]) (fun (k, q) w1 => Heap [base w] w1 ∧ k ≤ (RR.drop 1).length ∧ q ≤ k ∧ nth RR (q : Int) = bestTo (fun a b : List Int => decide (Q.cmpL a b < 0)) RR k) (fun (k, q) => (RR.drop 1).length - k) (0, 0) (Sub.cons rfl (Sub.cons rfl (Sub.cons rfl (Sub.cons rfl (Sub.cons rfl (Sub.cons rfl (Sub.nil _))))))) ?_ ?_
  · exact ⟨hH, by omega, by omega, rfl⟩
  · rintro ⟨k, q⟩ w1 ⟨hH2, hk, hqk, hq⟩
    show Holds _ _ _ _ _ [(14, (.int .i64 (k : Int))), (5, (sv (nth TT (q : Int)))), (1, (.func (.func 94) #[] #[])), (4, (.slice none 0 0)), (12, (cutv u 1 1 TT.length)), (13, (.int .i64 ((TT.drop 1).length : Int)))] _ _
    refine seq (region ?_)
    refine ops_y hH2 rfl rfl (yv_lss rfl rfl) ?_
    refine ops_nil (thn_n (seq ?_))
    by_cases hc3 : (k : Int) < ((TT.drop 1).length : Int)
    · skip
      refine cond_t rfl (decide_eq_true hc3) ?_
      refine skip (thn_n (seq (block (seq (region ?_)))))
      refine ops_y hH2 rfl rfl (yv_index T.sl100 rfl rfl (Rd.from ((ha.now hH2 (n := 0) rfl).1) (lo := 1) (by omega)).is (by omega)) ?_
      refine ops_y hH2 rfl rfl (yv_load T.one22 rfl (fun _ hw => Rd.at (Rd.from ((ha.now hw (n := 0) rfl).1) (lo := 1) (by omega)) (i := (k : Int)) (by omega) (j := 0) rfl)) ?_
      refine ops_y hH2 rfl rfl (yv_assign rfl) (ops_nil (thn_n (seq ?_)))
      have hka := he1 (1 + k) (by omega)
      rw [← nth_drop RR 1 k] at hka
      have hkb := he1 q (by omega)
      refine region (ops_y hH2 rfl rfl (yv_move rfl) (ops_y hH2 rfl rfl (yv_move rfl) (ops_y hH2 rfl rfl (yv_move rfl) ?_)))
      refine op_fnV rfl rfl rfl hH2 (c94 (RowsAt.at ((ha.now hH2 (n := 0) rfl).drop1 (by omega)) (by omega) (by omega)) (RowsAt.at (ha.now hH2 (n := 0) rfl) (by omega) (by omega)) (by omega) (by omega)) (fun w4 hH5 => ?_)
      refine ops_nil (thn_n ?_)
      by_cases hc6 : (fun a b : List Int => decide (Q.cmpL a b < 0)) (nth (RR.drop 1) (k : Int)) (nth RR (q : Int)) = true
      · skip
        have hp : (fun a b : List Int => decide (Q.cmpL a b < 0)) (nth (RR.drop 1) (k : Int)) (nth RR (q : Int)) = true := hc6
        refine cond_t rfl hc6 ?_
        refine region (ops_y hH5 rfl rfl (yv_move rfl) (ops_y hH5 rfl rfl (yv_assign rfl) (ops_nil (blk_n (thn_n (region ?_))))))
        refine ops_y hH5 rfl rfl (yv_add rfl rfl (by omega)) ?_
        refine ops_y hH5 rfl rfl (yv_move rfl) (ops_nil ?_)
        refine lp_n (k + 1, k + 1) (Sub.cons rfl (Sub.cons (by first | rfl | (rw [nth_drop, Nat.add_comm]; rfl)) (Sub.cons rfl (Sub.cons rfl (Sub.cons rfl (Sub.cons rfl (Sub.nil _))))))) ?_ ?_
        · exact ⟨hH5, by omega, by omega, by rw [bestTo_t (by rw [← hq]; exact hp), nth_drop, Nat.add_comm]⟩
        · first | (dsimp only; omega) | (show _ < _; omega)
      · skip
        have hpn : (fun a b : List Int => decide (Q.cmpL a b < 0)) (nth (RR.drop 1) (k : Int)) (nth RR (q : Int)) = false := (Bool.eq_false_iff.2 hc6)
        refine cond_f rfl (Bool.eq_false_iff.2 hc6) ?_
        refine skip (blk_n (thn_n (region ?_)))
        refine ops_y hH5 rfl rfl (yv_add rfl rfl (by omega)) ?_
        refine ops_y hH5 rfl rfl (yv_move rfl) (ops_nil ?_)
        refine lp_n (k + 1, q) (Sub.cons rfl (Sub.cons (by first | rfl | (rw [nth_drop, Nat.add_comm]; rfl)) (Sub.cons rfl (Sub.cons rfl (Sub.cons rfl (Sub.cons rfl (Sub.nil _))))))) ?_ ?_
        · exact ⟨hH5, by omega, by omega, by rw [bestTo_f (by rw [← hq]; exact hpn)]; exact hq⟩
        · first | (dsimp only; omega) | (show _ < _; omega)
    · skip
      refine cond_f rfl (decide_eq_false hc3) ?_
      refine exit (thn_x (lp_x (blk_here (thn_n (seq (region (ops_y hH2 rfl rfl (yv_move rfl) (ops_y hH2 rfl rfl (yv_assign rfl) (ops_nil ?_)))))))))
      refine thn_n (ret ?_)
      refine fin hH2 (fun w' hf => (res1 rfl (show RV _ _ _ (.tmp 4) _ from rfl))) (fun w' hf => ?_)
      have hke : k = RR.length - 1 := by omega
      exact ⟨q, by omega, rfl, by rw [hq, hke]; exact bestTo_minT hn⟩

theorem c70r {n h : Nat} {z : Int} {w : World} (hz : z = (h : Int) - 1) (hn : n ≤ 2 ^ h - 1) (hn2 : n ≤ 12) (hh : h ≤ 12) (ih : ∀ {n1 h1 : Nat} {z1 : Int} {w : World}, h1 < h → z1 = (h1 : Int) - 1 → n1 ≤ 2 ^ h1 - 1 → n1 ≤ 12 → h1 ≤ 12 → Fn Try.prog 70 #[.int .i64 (n1 : Int), .int .i64 z1] w (fun u w => Own 3 1 encI u (Q.lowF h1 n1) w))  :
    Fn Try.prog 70 [(.int .i64 (n : Int)), (.int .i64 z)].toArray w (fun u w => Own 3 1 encI u (Q.lowF h n) w) := by
  refine fn_of' (args := [(.int .i64 (n : Int)), (.int .i64 z)]) Try.func70 rfl (ent Try.func70 (by kernel_rfl) rfl) rfl rfl (fun hH => ?_)
  refine seq (region (ops_y hH rfl rfl (yv_assign rfl) (ops_nil (thn_n (seq (seq (region (ops_y hH rfl rfl (yv_move rfl) ?_))))))))
  refine ops_y hH rfl rfl (yv_eql rfl rfl) ?_
  refine ops_nil (thn_n ?_)
  by_cases hc1 : (n : Int) = 0
  · skip
    refine cond_t rfl (decide_eq_true hc1) ?_
    refine seq (region (ops_y hH rfl rfl (yv_assign rfl) (ops_nil (thn_n (ret (thn_r ?_))))))
    refine fin hH (fun w' hf => (res1 rfl (show RV _ _ _ (.tmp 4) _ from rfl))) (fun w' hf => ?_)
    first | (rw [show n = 0 by omega, Q.lowF_nil]; exact own_nil) | (have ho := own_of_tail (L := []) hf (j := jj) (by rw [List.length_map] at hjl; exact hjl); rw [hjm, hlow] at ho; exact ho)
  · skip
    refine cond_f rfl (decide_eq_false hc1) ?_
    refine skip (thn_n (seq ?_))
    have hh1 : 1 ≤ h := Nat.pos_of_ne_zero (fun e => by subst e; simp at hn; omega)
    have hp2 : 2 ^ h = 2 ^ (h - 1) * 2 := by rw [← Nat.pow_succ]; congr 1; omega
    have hp1 := Q.two_pos (h - 1)
    have hp3 := Q.two_bd (h - 1) (by omega)
    have hbh : (Q.bh (h - 1) (n - 1)) ≤ n - 1 ∧ (Q.bh (h - 1) (n - 1)) ≤ 2 ^ (h - 1) - 1 := ⟨Nat.min_le_left _ _, Nat.min_le_right _ _⟩
    have hbh2 : (Q.bh (h - 1) (n - 1)) = n - 1 ∨ (Q.bh (h - 1) (n - 1)) = 2 ^ (h - 1) - 1 := by unfold Q.bh; omega
    refine region (ops_y hH rfl rfl (yv_move rfl) ?_)
    refine ops_y hH rfl rfl (yv_sub rfl rfl (by omega)) ?_
    refine ops_y hH rfl rfl (yv_move rfl) ?_
    refine ops_y hH rfl rfl (yv_shl1 rfl rfl (by omega) (Q.shl_val (k := (h - 1)) (by omega) (by omega))) ?_
    refine ops_y hH rfl rfl (yv_sub rfl rfl (by omega)) ?_
    refine ops_y hH rfl rfl (yv_cast (show _ = ((Q.bh (h - 1) (n - 1)) : Int) by omega) (yv_min rfl rfl)) ?_
    refine ops_y hH rfl rfl (yv_assign rfl) (ops_nil (thn_n (seq (region (ops_y hH rfl rfl (yv_assign rfl) (ops_nil (thn_n (seq (seq ?_)))))))))
    refine region (ops_y hH rfl rfl (yv_move rfl) (ops_y hH rfl rfl (yv_assign rfl) (ops_nil (thn_n (block ?_)))))
    have hH2 := ow_nil (enc := encS) 22 1 hH
    refine loop (S := Nat × List RwI × Value × Nat × Nat) (fun (j, Rs, v_6, lo_6, hi_6) => [(7, (.int .i64 (((Q.bh (h - 1) (n - 1)) : Int) - (j : Int)))), (6, v_6), (0, (.int .i64 (n : Int))), (1, (.int .i64 z)), (4, (.slice none 0 0))]) (fun (j, Rs, v_6, lo_6, hi_6) w1 => Heap ([ow lo_6 hi_6 22 1 encS v_6 (Rs.map (·.s)), base w] ++ Rs.map rowI) w1 ∧ j ≤ (Q.bh (h - 1) (n - 1)) + 1 ∧ Rs.map (·.l) = Q.lowTo (h - 1) (n - 1) j ∧ (1 ≤ j → n - 1 - ((Q.bh (h - 1) (n - 1)) - (j - 1)) ≤ 2 ^ (h - 1) - 1)) (fun (j, Rs, v_6, lo_6, hi_6) => (Q.bh (h - 1) (n - 1)) + 1 - j) (0, [], (.slice none 0 0), w.heap.size, w.heap.size) (Sub.cons (congrArg (fun z : Int => some (Value.int .i64 z)) (by omega)) (Sub.cons rfl (Sub.cons rfl (Sub.cons rfl (Sub.cons rfl (Sub.nil _)))))) ?_ ?_
    · exact ⟨(Heap.recast (n := 0) hH2 rfl (rfl)), by omega, rfl, (fun h => by omega)⟩
    · rintro ⟨j, Rs, v_6, lo_6, hi_6⟩ w3 ⟨hH4, hj, hR, hjj⟩
      show Holds _ _ _ _ _ [(7, (.int .i64 (((Q.bh (h - 1) (n - 1)) : Int) - (j : Int)))), (6, v_6), (0, (.int .i64 (n : Int))), (1, (.int .i64 z)), (4, (.slice none 0 0))] _ _
      have hRl : (Rs.map (·.s)).length = j := by have h1 := congrArg List.length hR; rw [Q.lowTo_length] at h1; simpa using h1
      refine seq (seq (region (ops_y hH4 rfl rfl (yv_move rfl) ?_)))
      refine ops_y hH4 rfl rfl (yv_geq rfl rfl) ?_
      refine ops_y hH4 rfl rfl (yv_move rfl) ?_
      by_cases hc5 : 0 ≤ (((Q.bh (h - 1) (n - 1)) : Int) - (j : Int))
      · skip
        refine guard_yes rfl rfl (decide_eq_true hc5) ?_
        refine ops_y hH4 rfl rfl (yv_move rfl) ?_
        refine guard_yes rfl rfl (decide_eq_true hc5) ?_
        refine ops_y hH4 rfl rfl (yv_sub rfl rfl (by omega)) ?_
        refine guard_yes rfl rfl (decide_eq_true hc5) ?_
        refine ops_y hH4 rfl rfl (yv_move rfl) ?_
        refine guard_yes rfl rfl (decide_eq_true hc5) ?_
        refine ops_y hH4 rfl rfl (yv_sub rfl rfl (by omega)) ?_
        refine guard_yes rfl rfl (decide_eq_true hc5) ?_
        refine ops_y hH4 rfl rfl (yv_move rfl) ?_
        refine guard_yes rfl rfl (decide_eq_true hc5) ?_
        refine ops_y hH4 rfl rfl (yv_shl1 rfl rfl (by omega) (Q.shl_val (k := (h - 1)) (by omega) (by omega))) ?_
        refine guard_yes rfl rfl (decide_eq_true hc5) ?_
        refine ops_y hH4 rfl rfl (yv_sub rfl rfl (by omega)) ?_
        refine guard_yes rfl rfl (decide_eq_true hc5) ?_
        refine ops_y hH4 rfl rfl (yv_leq rfl rfl) ?_
        refine ops_y hH4 rfl rfl (yv_pick_t rfl (decide_eq_true hc5) rfl) ?_
        refine ops_nil (thn_n ?_)
        by_cases hc6 : (((n : Int) - 1) - (((Q.bh (h - 1) (n - 1)) : Int) - (j : Int))) ≤ (((2 ^ (h - 1) : Nat) : Int) - 1)
        · skip
          refine cond_t rfl (decide_eq_true hc6) ?_
          refine skip (thn_n (seq (block ?_)))
          have hla := Q.lowF_length (h := h - 1) (n := n - 1 - ((Q.bh (h - 1) (n - 1)) - j)) (by omega)
          have hlb := Q.lowF_length (h := h - 1) (n := (Q.bh (h - 1) (n - 1)) - j) (by omega)
          have hsm0 := Q.lowF_sm (h := h - 1) (n := n - 1 - ((Q.bh (h - 1) (n - 1)) - j)) (by omega) (by omega)
          have hsm1 := Q.lowF_sm (h := h - 1) (n := (Q.bh (h - 1) (n - 1)) - j) (by omega) (by omega)
          have hhl := Q.hung_length (l := Q.lowF (h - 1) (n - 1 - ((Q.bh (h - 1) (n - 1)) - j))) (r := Q.lowF (h - 1) ((Q.bh (h - 1) (n - 1)) - j))
          refine region (ops_y hH4 rfl rfl (yv_move rfl) (ops_y hH4 rfl rfl (yv_move rfl) ?_))
          refine ops_y hH4 rfl rfl (yv_sub rfl rfl (by omega)) ?_
          refine ops_y hH4 rfl rfl (yv_move rfl) ?_
          refine ops_y hH4 rfl rfl (yv_cast (show _ = ((n - 1 - ((Q.bh (h - 1) (n - 1)) - j) : Nat) : Int) by omega) (yv_sub rfl rfl (by omega))) ?_
          refine ops_y hH4 rfl rfl (yv_move rfl) ?_
          refine ops_y hH4 rfl rfl (yv_sub rfl rfl (by omega)) ?_
          refine op_fn rfl rfl rfl hH4 (ih (h1 := h - 1) (n1 := (n - 1 - ((Q.bh (h - 1) (n - 1)) - j))) (by omega) (by omega) (by omega) (by omega) (by omega)) (fun u9 w7 lo10 hi11 hH8 hv12 => ?_)
          have hH13 := Heap.toOw hH8 (n := 0) rfl
          refine ops_y hH13 rfl rfl (yv_cast (show _ = (((Q.bh (h - 1) (n - 1)) - j : Nat) : Int) by omega) (yv_move rfl)) ?_
          refine ops_y hH13 rfl rfl (yv_move rfl) ?_
          refine ops_y hH13 rfl rfl (yv_sub rfl rfl (by omega)) ?_
          refine op_fn rfl rfl rfl hH13 (ih (h1 := h - 1) (n1 := ((Q.bh (h - 1) (n - 1)) - j)) (by omega) (by omega) (by omega) (by omega) (by omega)) (fun u16 w14 lo17 hi18 hH15 hv19 => ?_)
          have hH20 := Heap.toOw hH15 (n := 0) rfl
          refine op_fn rfl rfl rfl hH20 (c91 (Heap.rdw T.el22_encI hH20 (n := 1) rfl) (Heap.rdw T.el22_encI hH20 (n := 0) rfl) (by omega) (by omega) hsm0 hsm1) (fun u23 w21 lo24 hi25 hH22 hv26 => ?_)
          have hH27 := Heap.toOw hH22 (n := 0) rfl
          obtain ⟨s28, hs29⟩ := Heap.sv hH27 (n := 0) rfl (by omega)
          refine op_lit (us := [(0, u23)]) T.el100_encS [s28] rfl (by decide) rfl (fun a ha => by simp [ha.ev (show ev _ (.tmp 43) = some _ from rfl)]) (fun w => by rw [hs29]; kernel_rfl) hH27 (fun u30 lo32 hi33 w31 hH34 => ?_)
          refine op_append (n := 4) T.el100_encS rfl rfl rfl hH34 rfl (Heap.rdw T.el100_encS hH34 (n := 0) rfl) (by first | omega | (simp only [List.length_append, List.length_cons, List.length_nil]; omega)) (fun u35 lo37 hi38 w36 hH39 => ?_)
          refine ops_y hH39 rfl rfl (yv_assign rfl) (ops_nil (blk_n (thn_n (region (ops_y hH39 rfl rfl (yv_move rfl) ?_)))))
          refine ops_y hH39 rfl rfl (yv_sub rfl rfl (by omega)) ?_
          refine ops_y hH39 rfl rfl (yv_assign rfl) (ops_nil ?_)
          have hH40 := (hH39.sub (List.Sublist.cons _ (List.Sublist.cons_cons _ (List.Sublist.cons _ (List.Sublist.cons _ (List.Sublist.refl _))))))
          have hH41 := Heap.totail (L := [ow lo37 hi38 22 1 encS u35 ((Rs.map (·.s)) ++ [s28]), base w]) hH40 hs29
          refine lp_n (j + 1, (Rs ++ [RwI.mk lo24 hi25 s28 (Q.hung (Q.lowF (h - 1) (n - 1 - ((Q.bh (h - 1) (n - 1)) - j))) (Q.lowF (h - 1) ((Q.bh (h - 1) (n - 1)) - j)))]), u35, lo37, hi38) (Sub.cons (congrArg (fun z : Int => some (Value.int .i64 z)) (by omega)) (Sub.cons rfl (Sub.cons rfl (Sub.cons rfl (Sub.cons rfl (Sub.nil _)))))) ?_ ?_
          · exact ⟨(Heap.recast (n := 0) hH41 rfl (hd_snoc rfl)), by omega, snd_snoc hR Q.lowTo_succ rfl, (fun _ => by omega)⟩
          · first | (dsimp only; omega) | (show _ < _; omega)
        · skip
          refine cond_f rfl (decide_eq_false hc6) ?_
          refine exit (thn_x (lp_x (blk_here (thn_n (seq ?_)))))
          have hj1 : j = (Q.bh (h - 1) (n - 1)) - ((n - 1) - (2 ^ (h - 1) - 1)) + 1 := by omega
          have hRl2 : (Rs.map (·.l)).length = j := by rw [hR, Q.lowTo_length]
          have hlow : Q.minT (Rs.map (·.l)) = Q.lowF h n := by rw [hR, Q.lowTo_all hj1, show h - 1 + 1 = h by omega, show n - 1 + 1 = n by omega]
          refine region (ops_y hH4 rfl rfl (yv_move rfl) ?_)
          have hH42 : Heap ([ow lo_6 hi_6 22 1 encS v_6 (Rs.map (·.s)), base w] ++ Rs.map rowI) w3 := hH4
          refine op_fn rfl rfl rfl hH4 (c92b (rows_of_tail2 (L := [ow lo_6 hi_6 22 1 encS v_6 (Rs.map (·.s)), base w]) (Rs := Rs) T.el100_encS T.el22_encI hH42 (n := 0) rfl) (by omega) (by omega) (fun i hi => by rw [hR] at hi ⊢; rw [Q.lowTo_row hj hjj hi]; omega)) (fun u45 w43 lo46 hi47 hH44 hv48 => ?_)
          obtain ⟨jj, hjl, hu, hjm⟩ := hv48
          subst hu
          have hH49 := (hH44).sub (List.sublist_cons_self _ _)
          refine ops_y hH49 rfl rfl (yv_assign rfl) (ops_nil (thn_n (ret ?_)))
          have hH50 := (hH49.sub (List.Sublist.cons _ (List.Sublist.refl _)))
          refine fin hH50 (fun w' hf => (res1 rfl (show RV _ _ _ (.tmp 4) _ from rfl))) (fun w' hf => ?_)
          first | (rw [show n = 0 by omega, Q.lowF_nil]; exact own_nil) | (have ho := own_of_tail (L := []) hf (j := jj) (by rw [List.length_map] at hjl; exact hjl); rw [hjm, hlow] at ho; exact ho)
      · skip
        refine guard_no rfl rfl (decide_eq_false hc5) rfl ?_
        refine guard_no rfl rfl (decide_eq_false hc5) rfl ?_
        refine guard_no rfl rfl (decide_eq_false hc5) rfl ?_
        refine guard_no rfl rfl (decide_eq_false hc5) rfl ?_
        refine guard_no rfl rfl (decide_eq_false hc5) rfl ?_
        refine guard_no rfl rfl (decide_eq_false hc5) rfl ?_
        refine guard_no rfl rfl (decide_eq_false hc5) rfl ?_
        refine guard_no rfl rfl (decide_eq_false hc5) rfl ?_
        refine ops_y hH4 rfl rfl (yv_pick_f rfl (decide_eq_false hc5) rfl) ?_
        refine ops_nil (thn_n ?_)
        refine cond_f rfl rfl ?_
        refine exit (thn_x (lp_x (blk_here (thn_n (seq ?_)))))
        have hj1 : j = (Q.bh (h - 1) (n - 1)) - ((n - 1) - (2 ^ (h - 1) - 1)) + 1 := by omega
        have hRl2 : (Rs.map (·.l)).length = j := by rw [hR, Q.lowTo_length]
        have hlow : Q.minT (Rs.map (·.l)) = Q.lowF h n := by rw [hR, Q.lowTo_all hj1, show h - 1 + 1 = h by omega, show n - 1 + 1 = n by omega]
        refine region (ops_y hH4 rfl rfl (yv_move rfl) ?_)
        have hH51 : Heap ([ow lo_6 hi_6 22 1 encS v_6 (Rs.map (·.s)), base w] ++ Rs.map rowI) w3 := hH4
        refine op_fn rfl rfl rfl hH4 (c92b (rows_of_tail2 (L := [ow lo_6 hi_6 22 1 encS v_6 (Rs.map (·.s)), base w]) (Rs := Rs) T.el100_encS T.el22_encI hH51 (n := 0) rfl) (by omega) (by omega) (fun i hi => by rw [hR] at hi ⊢; rw [Q.lowTo_row hj hjj hi]; omega)) (fun u54 w52 lo55 hi56 hH53 hv57 => ?_)
        obtain ⟨jj, hjl, hu, hjm⟩ := hv57
        subst hu
        have hH58 := (hH53).sub (List.sublist_cons_self _ _)
        refine ops_y hH58 rfl rfl (yv_assign rfl) (ops_nil (thn_n (ret ?_)))
        have hH59 := (hH58.sub (List.Sublist.cons _ (List.Sublist.refl _)))
        refine fin hH59 (fun w' hf => (res1 rfl (show RV _ _ _ (.tmp 4) _ from rfl))) (fun w' hf => ?_)
        first | (rw [show n = 0 by omega, Q.lowF_nil]; exact own_nil) | (have ho := own_of_tail (L := []) hf (j := jj) (by rw [List.length_map] at hjl; exact hjl); rw [hjm, hlow] at ho; exact ho)

theorem c70 {n h : Nat} {z : Int} {w : World} (hz : z = (h : Int) - 1) (hn : n ≤ 2 ^ h - 1) (hn2 : n ≤ 12) (hh : h ≤ 12) : Fn Try.prog 70 #[.int .i64 (n : Int), .int .i64 z] w (fun u w => Own 3 1 encI u (Q.lowF h n) w) := by
  induction h using Nat.strongRecOn generalizing n z w with
  | _ h ih => exact c70r hz hn hn2 hh (fun {n1 h1 z1 w1} hlt e1 e2 e3 e4 => ih h1 hlt e1 e2 e3 e4)

theorem c33 {n : Int} {w : World}  :
    Fn Try.prog 33 [(.int .i64 n)].toArray w (fun u w => ∃ q, u = .tuple #[q, .int .i64 (Q.lowR n).2] ∧ Own 3 1 encI q (Q.lowR n).1 w) := by
  refine fn_of' (args := [(.int .i64 n)]) Try.func33 rfl (ent Try.func33 (by kernel_rfl) rfl) rfl rfl (fun hH => ?_)
  refine seq (region (ops_y hH rfl rfl (yv_assign rfl) (ops_y hH rfl rfl (yv_assign rfl) (ops_nil (thn_n (seq (seq (region (ops_y hH rfl rfl (yv_move rfl) ?_)))))))))
  refine op_lit (us := [(0, (.int .i64 n))]) T.el30_encI [n] rfl (by decide) rfl (fun a ha => by simp [ha.ev (show ev _ (.tmp 5) = some _ from rfl)]) (fun w => by kernel_rfl) hH (fun u1 lo3 hi4 w2 hH5 => ?_)
  refine op_fnV rfl rfl rfl hH5 (c58_1 (Heap.rdw T.el30_encI hH5 (n := 0) rfl)) (fun w6 hH7 => ?_)
  refine ops_y hH7 rfl rfl (yv_not rfl) ?_
  refine ops_nil (thn_n ?_)
  by_cases hc8 : 1 ≤ n ∧ n ≤ 12
  · skip
    refine cond_f rfl (not_decide_n hc8) ?_
    refine skip (thn_n (seq (region (ops_y hH7 rfl rfl (yv_assign rfl) (ops_nil (thn_n (seq (block ?_))))))))
    refine loop (S := Nat) (fun d => [(4, (.int .i64 (d : Int))), (0, (.int .i64 n)), (2, (.slice none 0 0)), (3, (.int .i64 0))]) (fun d w1 => Heap [ow lo3 hi4 2 1 encI u1 [n], base w] w1 ∧ d ≤ 3 ∧ (d = 0 ∨ 2 ^ d ≤ n.toNat)) (fun d => 4 - d) (0) (Sub.cons rfl (Sub.cons rfl (Sub.cons rfl (Sub.cons rfl (Sub.nil _))))) ?_ ?_
    · exact ⟨hH7, by omega, .inl rfl⟩
    · rintro d w9 ⟨hH10, hd, hd2⟩
      show Holds _ _ _ _ _ [(4, (.int .i64 (d : Int))), (0, (.int .i64 n)), (2, (.slice none 0 0)), (3, (.int .i64 0))] _ _
      refine seq (seq ?_)
      have hd3 : d = 3 → 2 ^ (d + 1) = 16 := fun e => by subst e; rfl
      refine region (ops_y hH10 rfl rfl (yv_move rfl) ?_)
      refine ops_y hH10 rfl rfl (yv_shl2 rfl rfl (by omega) (Q.shl_two (k := d) (by omega) (by omega))) ?_
      refine ops_y hH10 rfl rfl (yv_move rfl) ?_
      refine ops_y hH10 rfl rfl (yv_leq rfl rfl) ?_
      refine ops_nil (thn_n ?_)
      by_cases hc11 : ((2 ^ (d + 1) : Nat) : Int) ≤ n
      · skip
        refine cond_t rfl (decide_eq_true hc11) ?_
        refine skip (thn_n (block (region (ops_y hH10 rfl rfl (yv_move rfl) ?_))))
        refine ops_y hH10 rfl rfl (yv_add rfl rfl (by omega)) ?_
        refine ops_y hH10 rfl rfl (yv_assign rfl) (ops_nil (blk_n ?_))
        refine lp_n (d + 1) (Sub.cons rfl (Sub.cons rfl (Sub.cons rfl (Sub.cons rfl (Sub.nil _))))) ?_ ?_
        · exact ⟨hH10, by omega, .inr (by omega)⟩
        · first | (dsimp only; omega) | (show _ < _; omega)
      · skip
        refine cond_f rfl (decide_eq_false hc11) ?_
        refine exit (thn_x (lp_x (blk_here (thn_n (seq ?_)))))
        have hlv := Q.lvl_ok (n := n.toNat) (d := d) (by omega) (by omega) hd (by omega) hd2
        have hft := Q.lvl_fit n.toNat (by omega)
        rw [hlv] at hft
        refine region (ops_y hH10 rfl rfl (yv_move rfl) (ops_y hH10 rfl rfl (yv_move rfl) ?_))
        refine op_fn rfl rfl rfl hH10 ((by have h := c70 (n := n.toNat) (h := d + 1) (z := (d : Int)) (w := w9) (by omega) (by omega) (by omega) (by omega); rw [Int.toNat_of_nonneg (by omega)] at h; exact h)) (fun u14 w12 lo15 hi16 hH13 hv17 => ?_)
        have hH18 := Heap.toOw hH13 (n := 0) rfl
        refine ops_y hH18 rfl rfl (yv_assign rfl) (ops_y hH18 rfl rfl (yv_assign rfl) (ops_nil (thn_n (ret ?_))))
        have hH19 := (hH18.sub (List.Sublist.cons_cons _ (List.Sublist.cons _ (List.Sublist.refl _))))
        refine fin (hH19.front (n := 1) rfl) (fun w' hf => (res2 rfl (show RV _ _ _ (.tmp 2) _ from rfl) (show RV _ _ _ (.tmp 3) _ from rfl))) (fun w' hf => ?_)
        first | (rw [Q.lr1 (by omega)]; exact ⟨_, rfl, own_nil⟩) | (rw [Q.lr2 (by omega), hlv]; exact ⟨_, rfl, Heap.own hf (n := 0) rfl⟩)
  · skip
    refine cond_t rfl (not_decide_t hc8) ?_
    refine seq (region (ops_y hH7 rfl rfl (yv_assign rfl) (ops_y hH7 rfl rfl (yv_assign rfl) (ops_nil (thn_n (ret (thn_r ?_)))))))
    have hH20 := (hH7.sub (List.Sublist.cons _ (List.Sublist.refl _)))
    refine fin hH20 (fun w' hf => (res2 rfl (show RV _ _ _ (.tmp 2) _ from rfl) (show RV _ _ _ (.tmp 3) _ from rfl))) (fun w' hf => ?_)
    first | (rw [Q.lr1 (by omega)]; exact ⟨_, rfl, own_nil⟩) | (rw [Q.lr2 (by omega), hlv]; exact ⟨_, rfl, Heap.own hf (n := 0) rfl⟩)

theorem c71r {n h : Nat} {z : Int} {w : World} (hz : z = (h : Int) - 1) (hn2 : n ≤ 12) (hh : h ≤ 12) (ih : ∀ {n1 h1 : Nat} {z1 : Int} {w : World}, h1 < h → z1 = (h1 : Int) - 1 → n1 ≤ 12 → h1 ≤ 12 → Fn Try.prog 71 #[.int .i64 (n1 : Int), .int .i64 z1] w (fun u w => ∃ q, u = .tuple #[q, .bool (Q.lowO h1 n1).2] ∧ Own 3 1 encI q (Q.lowO h1 n1).1 w))  :
    Fn Try.prog 71 [(.int .i64 (n : Int)), (.int .i64 z)].toArray w (fun u w => ∃ q, u = .tuple #[q, .bool (Q.lowO h n).2] ∧ Own 3 1 encI q (Q.lowO h n).1 w) := by
  refine fn_of' (args := [(.int .i64 (n : Int)), (.int .i64 z)]) Try.func71 rfl (ent Try.func71 (by kernel_rfl) rfl) rfl rfl (fun hH => ?_)
  refine seq (region (ops_y hH rfl rfl (yv_assign rfl) (ops_y hH rfl rfl (yv_assign rfl) (ops_nil (thn_n (seq (seq (region (ops_y hH rfl rfl (yv_move rfl) ?_)))))))))
  refine ops_y hH rfl rfl (yv_eql rfl rfl) ?_
  refine ops_nil (thn_n ?_)
  by_cases hc1 : (n : Int) = 0
  · skip
    refine cond_t rfl (decide_eq_true hc1) ?_
    refine seq (region (ops_y hH rfl rfl (yv_assign rfl) (ops_y hH rfl rfl (yv_assign rfl) (ops_nil (thn_n (ret (thn_r ?_)))))))
    refine fin hH (fun w' hf => (res2 rfl (show RV _ _ _ (.tmp 4) _ from rfl) (show RV _ _ _ (.tmp 5) _ from rfl))) (fun w' hf => ?_)
    first | (rw [show n = 0 by omega, Q.lowO_nil]; exact ⟨_, rfl, own_nil⟩) | (rw [Q.lowO_none (by omega) (by omega)]; exact ⟨_, rfl, own_nil⟩) | exact Q.low_fin (h := h) (n := n) hn0 hh1 (by rw [show n = r by omega] at hB ⊢; exact hB) (Heap.own hf (n := 0) rfl) | exact Q.low_fin (h := h) (n := n) hn0 hh1 ((show r = n by omega) ▸ hB) (Heap.own hf (n := 0) rfl)
  · skip
    refine cond_f rfl (decide_eq_false hc1) ?_
    refine skip (thn_n (seq (seq (region (ops_y hH rfl rfl (yv_move rfl) ?_)))))
    refine ops_y hH rfl rfl (yv_lss rfl rfl) ?_
    refine ops_nil (thn_n ?_)
    by_cases hc2 : z < 0
    · skip
      refine cond_t rfl (decide_eq_true hc2) ?_
      refine seq (region (ops_y hH rfl rfl (yv_assign rfl) (ops_y hH rfl rfl (yv_assign rfl) (ops_nil (thn_n (ret (thn_r ?_)))))))
      refine fin hH (fun w' hf => (res2 rfl (show RV _ _ _ (.tmp 4) _ from rfl) (show RV _ _ _ (.tmp 5) _ from rfl))) (fun w' hf => ?_)
      first | (rw [show n = 0 by omega, Q.lowO_nil]; exact ⟨_, rfl, own_nil⟩) | (rw [Q.lowO_none (by omega) (by omega)]; exact ⟨_, rfl, own_nil⟩) | exact Q.low_fin (h := h) (n := n) hn0 hh1 (by rw [show n = r by omega] at hB ⊢; exact hB) (Heap.own hf (n := 0) rfl) | exact Q.low_fin (h := h) (n := n) hn0 hh1 ((show r = n by omega) ▸ hB) (Heap.own hf (n := 0) rfl)
    · skip
      refine cond_f rfl (decide_eq_false hc2) ?_
      refine skip (thn_n (seq ?_))
      have hh1 : 1 ≤ h := by omega
      have hn0 : 1 ≤ n := by omega
      refine region (ops_y hH rfl rfl (yv_assign rfl) (ops_nil (thn_n (seq (seq (region (ops_y hH rfl rfl (yv_assign rfl) (ops_nil (thn_n ?_)))))))))
      refine block ?_
      have hH3 := ow_nil (enc := encI) 3 1 hH
      refine loop (S := Nat × List Int × Value × Nat × Nat) (fun (r, o, v_6, lo_6, hi_6) => [(7, (.int .i64 (r : Int))), (6, v_6), (0, (.int .i64 (n : Int))), (1, (.int .i64 z)), (4, (.slice none 0 0)), (5, (.bool false))]) (fun (r, o, v_6, lo_6, hi_6) w1 => Heap [ow lo_6 hi_6 3 1 encI v_6 o, base w] w1 ∧ r ≤ n ∧ Q.LowB (h - 1) (n - 1) r o) (fun (r, o, v_6, lo_6, hi_6) => n - r) (0, [], (.slice none 0 0), w.heap.size, w.heap.size) (Sub.cons rfl (Sub.cons rfl (Sub.cons rfl (Sub.cons rfl (Sub.cons rfl (Sub.cons rfl (Sub.nil _))))))) ?_ ?_
      · exact ⟨(Heap.recast (n := 0) hH3 rfl (rfl)), by omega, Q.LowB.start⟩
      · rintro ⟨r, o, v_6, lo_6, hi_6⟩ w4 ⟨hH5, hr, hB⟩
        show Holds _ _ _ _ _ [(7, (.int .i64 (r : Int))), (6, v_6), (0, (.int .i64 (n : Int))), (1, (.int .i64 z)), (4, (.slice none 0 0)), (5, (.bool false))] _ _
        have hol := hB.len (by omega)
        have hosm := hB.sm (by omega) (by omega)
        refine seq (seq (region (ops_y hH5 rfl rfl (yv_move rfl) (ops_y hH5 rfl rfl (yv_move rfl) ?_))))
        refine ops_y hH5 rfl rfl (yv_lss rfl rfl) ?_
        refine ops_nil (thn_n ?_)
        by_cases hc6 : (r : Int) < (n : Int)
        · skip
          refine cond_t rfl (decide_eq_true hc6) ?_
          refine skip (thn_n (seq (block (seq (region (ops_y hH5 rfl rfl (yv_move rfl) (ops_y hH5 rfl rfl (yv_move rfl) ?_)))))))
          refine ops_y hH5 rfl rfl (yv_sub rfl rfl (by omega)) ?_
          refine op_fn rfl rfl rfl hH5 (ih (h1 := h - 1) (n1 := r) (by omega) (by omega) (by omega) (by omega)) (fun u9 w7 lo10 hi11 hH8 hv12 => ?_)
          obtain ⟨p14, hu, -⟩ := hv12
          subst hu
          have hH13 := Heap.tup2 hH8 (n := 0) rfl
          refine ops_y hH13 rfl rfl (yv_move rfl) (ops_y hH13 rfl rfl (yv_extract rfl rfl) (ops_y hH13 rfl rfl (yv_extract rfl rfl) (ops_y hH13 rfl rfl (yv_assign rfl) (ops_y hH13 rfl rfl (yv_assign rfl) (ops_nil (thn_n (seq (region (ops_y hH13 rfl rfl (yv_move rfl) ?_)))))))))
          refine ops_y hH13 rfl rfl (yv_sub rfl rfl (by omega)) ?_
          refine ops_y hH13 rfl rfl (yv_move rfl) ?_
          refine ops_y hH13 rfl rfl (yv_cast (show _ = ((n - 1 - r : Nat) : Int) by omega) (yv_sub rfl rfl (by omega))) ?_
          refine ops_y hH13 rfl rfl (yv_move rfl) ?_
          refine ops_y hH13 rfl rfl (yv_sub rfl rfl (by omega)) ?_
          refine op_fn rfl rfl rfl hH13 (ih (h1 := h - 1) (n1 := (n - 1 - r)) (by omega) (by omega) (by omega) (by omega)) (fun u17 w15 lo18 hi19 hH16 hv20 => ?_)
          obtain ⟨p22, hu, -⟩ := hv20
          subst hu
          have hH21 := Heap.tup2 hH16 (n := 0) rfl
          refine ops_y hH21 rfl rfl (yv_move rfl) (ops_y hH21 rfl rfl (yv_extract rfl rfl) (ops_y hH21 rfl rfl (yv_extract rfl rfl) (ops_y hH21 rfl rfl (yv_assign rfl) (ops_y hH21 rfl rfl (yv_assign rfl) (ops_nil (thn_n (seq ?_)))))))
          by_cases hc23 : (Q.lowO (h - 1) r).2 = true ∧ (Q.lowO (h - 1) (n - 1 - r)).2 = true
          · skip
            have hb1 : (Q.lowO (h - 1) r).2 = true := (‹_ ∧ _›).1
            have hb2 : (Q.lowO (h - 1) (n - 1 - r)).2 = true := (‹_ ∧ _›).2
            obtain ⟨e1, g1⟩ := Q.lowO_yes hb1
            obtain ⟨e2, g2⟩ := Q.lowO_yes hb2
            have hla : (Q.lowO (h - 1) r).1.length = r := by rw [e1]; exact Q.lowF_length g1
            have hlb : (Q.lowO (h - 1) (n - 1 - r)).1.length = n - 1 - r := by rw [e2]; exact Q.lowF_length g2
            have hsm0 : Q.Sm (Q.lowO (h - 1) r).1 := by rw [e1]; exact Q.lowF_sm g1 (by omega)
            have hsm1 : Q.Sm (Q.lowO (h - 1) (n - 1 - r)).1 := by rw [e2]; exact Q.lowF_sm g2 (by omega)
            have hhl := Q.hung_length (l := (Q.lowO (h - 1) r).1) (r := (Q.lowO (h - 1) (n - 1 - r)).1)
            refine region (ops_y hH21 rfl rfl (yv_move rfl) (ops_y hH21 rfl rfl (yv_move rfl) ?_))
            have hc24 : (Q.lowO (h - 1) r).2 = true := hb1
            refine guard_yes rfl rfl hc24 ?_
            refine ops_y hH21 rfl rfl (yv_move rfl) ?_
            refine ops_y hH21 rfl rfl (yv_pick_t rfl hc24 rfl) ?_
            refine ops_y hH21 rfl rfl (yv_move rfl) ?_
            have hc25 : (Q.lowO (h - 1) (n - 1 - r)).2 = true := hb2
            refine guard_yes rfl rfl hc25 ?_
            refine ops_y hH21 rfl rfl (yv_move rfl) ?_
            refine guard_yes rfl rfl hc25 ?_
            refine ops_y hH21 rfl rfl (yv_len T.sl22 rfl (Heap.rdw T.el22_encI hH21 (n := 2) rfl).is) ?_
            refine guard_yes rfl rfl hc25 ?_
            refine ops_y hH21 rfl rfl (yv_eql rfl rfl) ?_
            refine guard_yes rfl rfl hc25 ?_
            refine ops_y hH21 rfl rfl (yv_move rfl) ?_
            by_cases hc26 : (o.length : Int) = 0
            · skip
              have hcT : o.length = 0 ∨ Q.cmpL (Q.hung (Q.lowO (h - 1) r).1 (Q.lowO (h - 1) (n - 1 - r)).1) o < 0 := .inl (by omega)
              refine guard_no rfl rfl (decide_eq_true hc26) rfl ?_
              refine guard_no rfl rfl (decide_eq_true hc26) rfl ?_
              refine guard_no rfl rfl (decide_eq_true hc26) rfl ?_
              refine guard_no rfl rfl (decide_eq_true hc26) rfl ?_
              refine guard_no rfl rfl (decide_eq_true hc26) rfl ?_
              refine guard_yes rfl rfl hc25 ?_
              refine ops_y hH21 rfl rfl (yv_pick_t rfl (decide_eq_true hc26) rfl) ?_
              refine ops_y hH21 rfl rfl (yv_pick_t rfl hc25 rfl) ?_
              refine ops_nil (thn_n ?_)
              refine cond_t rfl rfl ?_
              refine region (ops_y hH21 rfl rfl (yv_move rfl) (ops_y hH21 rfl rfl (yv_move rfl) ?_))
              refine op_fn rfl rfl rfl hH21 (c80 (Heap.rdw T.el22_encI hH21 (n := 1) rfl) (Heap.rdw T.el22_encI hH21 (n := 0) rfl) (by omega) (by omega) hsm0 hsm1) (fun u29 w27 lo30 hi31 hH28 hv32 => ?_)
              have hH33 := Heap.toOw hH28 (n := 0) rfl
              refine ops_y hH33 rfl rfl (yv_assign rfl) (ops_nil (blk_n (thn_n (region (ops_y hH33 rfl rfl (yv_move rfl) ?_)))))
              refine ops_y hH33 rfl rfl (yv_add rfl rfl (by omega)) ?_
              refine ops_y hH33 rfl rfl (yv_assign rfl) (ops_nil ?_)
              have hH34 := (hH33.sub (List.Sublist.cons_cons _ (List.Sublist.cons _ (List.Sublist.cons _ (List.Sublist.cons _ (List.Sublist.refl _))))))
              refine lp_n (r + 1, (Q.hung ((Q.lowO (h - 1) r).1) ((Q.lowO (h - 1) (n - 1 - r)).1)), u29, lo30, hi31) (Sub.cons rfl (Sub.cons rfl (Sub.cons rfl (Sub.cons rfl (Sub.cons rfl (Sub.cons rfl (Sub.nil _))))))) ?_ ?_
              · exact ⟨(Heap.recast (n := 0) hH34 rfl (rfl)), by omega, by rw [e1, e2]; exact hB.take ⟨g1, g2⟩ (by rw [← e1, ← e2]; exact hcT)⟩
              · first | (dsimp only; omega) | (show _ < _; omega)
            · skip
              have hcL : o.length ≠ 0 := by omega
              refine guard_yes rfl rfl (decide_eq_false hc26) ?_
              refine ops_y hH21 rfl rfl (yv_move rfl) ?_
              refine guard_yes rfl rfl (decide_eq_false hc26) ?_
              refine ops_y hH21 rfl rfl (yv_move rfl) ?_
              refine guard_yes rfl rfl (decide_eq_false hc26) ?_
              refine op_fn rfl rfl rfl hH21 (c80 (Heap.rdw T.el22_encI hH21 (n := 1) rfl) (Heap.rdw T.el22_encI hH21 (n := 0) rfl) (by omega) (by omega) hsm0 hsm1) (fun u37 w35 lo38 hi39 hH36 hv40 => ?_)
              have hH41 := Heap.toOw hH36 (n := 0) rfl
              refine guard_yes rfl rfl (decide_eq_false hc26) ?_
              refine ops_y hH41 rfl rfl (yv_move rfl) ?_
              refine guard_yes rfl rfl (decide_eq_false hc26) ?_
              refine op_fnV rfl rfl rfl hH41 (c51 (Heap.rdw T.el22_encI hH41 (n := 0) rfl) (Heap.rdw T.el22_encI hH41 (n := 3) rfl) (by omega) (by omega)) (fun w42 hH43 => ?_)
              refine guard_yes rfl rfl hc25 ?_
              refine ops_y hH43 rfl rfl (yv_pick_f rfl (decide_eq_false hc26) rfl) ?_
              refine ops_y hH43 rfl rfl (yv_pick_t rfl hc25 rfl) ?_
              refine ops_nil (thn_n ?_)
              by_cases hc44 : Q.cmpL (Q.hung ((Q.lowO (h - 1) r).1) ((Q.lowO (h - 1) (n - 1 - r)).1)) o < 0
              · skip
                have hcT : o.length = 0 ∨ Q.cmpL (Q.hung (Q.lowO (h - 1) r).1 (Q.lowO (h - 1) (n - 1 - r)).1) o < 0 := .inr ‹_›
                refine cond_t rfl (decide_eq_true hc44) ?_
                refine region (ops_y hH43 rfl rfl (yv_move rfl) (ops_y hH43 rfl rfl (yv_move rfl) ?_))
                refine op_fn rfl rfl rfl hH43 (c80 (Heap.rdw T.el22_encI hH43 (n := 2) rfl) (Heap.rdw T.el22_encI hH43 (n := 1) rfl) (by omega) (by omega) hsm0 hsm1) (fun u47 w45 lo48 hi49 hH46 hv50 => ?_)
                have hH51 := Heap.toOw hH46 (n := 0) rfl
                refine ops_y hH51 rfl rfl (yv_assign rfl) (ops_nil (blk_n (thn_n (region (ops_y hH51 rfl rfl (yv_move rfl) ?_)))))
                refine ops_y hH51 rfl rfl (yv_add rfl rfl (by omega)) ?_
                refine ops_y hH51 rfl rfl (yv_assign rfl) (ops_nil ?_)
                have hH52 := (hH51.sub (List.Sublist.cons_cons _ (List.Sublist.cons _ (List.Sublist.cons _ (List.Sublist.cons _ (List.Sublist.cons _ (List.Sublist.refl _)))))))
                refine lp_n (r + 1, (Q.hung ((Q.lowO (h - 1) r).1) ((Q.lowO (h - 1) (n - 1 - r)).1)), u47, lo48, hi49) (Sub.cons rfl (Sub.cons rfl (Sub.cons rfl (Sub.cons rfl (Sub.cons rfl (Sub.cons rfl (Sub.nil _))))))) ?_ ?_
                · exact ⟨(Heap.recast (n := 0) hH52 rfl (rfl)), by omega, by rw [e1, e2]; exact hB.take ⟨g1, g2⟩ (by rw [← e1, ← e2]; exact hcT)⟩
                · first | (dsimp only; omega) | (show _ < _; omega)
              · skip
                have hcF : ¬ Q.cmpL (Q.hung (Q.lowO (h - 1) r).1 (Q.lowO (h - 1) (n - 1 - r)).1) o < 0 := ‹_›
                refine cond_f rfl (decide_eq_false hc44) ?_
                refine skip (blk_n (thn_n (region (ops_y hH43 rfl rfl (yv_move rfl) ?_))))
                refine ops_y hH43 rfl rfl (yv_add rfl rfl (by omega)) ?_
                refine ops_y hH43 rfl rfl (yv_assign rfl) (ops_nil ?_)
                have hH53 := (hH43.sub (List.Sublist.cons _ (List.Sublist.cons _ (List.Sublist.cons _ (List.Sublist.refl _)))))
                refine lp_n (r + 1, o, v_6, lo_6, hi_6) (Sub.cons rfl (Sub.cons rfl (Sub.cons rfl (Sub.cons rfl (Sub.cons rfl (Sub.cons rfl (Sub.nil _))))))) ?_ ?_
                · exact ⟨(Heap.recast (n := 0) hH53 rfl (rfl)), by omega, hB.keep hcL (by rw [← e1, ← e2]; exact hcF)⟩
                · first | (dsimp only; omega) | (show _ < _; omega)
          · skip
            have hnb : ¬ ((Q.lowO (h - 1) r).2 = true ∧ (Q.lowO (h - 1) (n - 1 - r)).2 = true) := ‹_›
            have hno : ¬ Q.ok2 (h - 1) (n - 1) r := fun k => hnb ⟨by rw [Q.lo1 k.1], by rw [Q.lo1 k.2]⟩
            refine region (ops_y hH21 rfl rfl (yv_move rfl) (ops_y hH21 rfl rfl (yv_move rfl) ?_))
            by_cases hc54 : (Q.lowO (h - 1) r).2 = true
            · skip
              refine guard_yes rfl rfl hc54 ?_
              refine ops_y hH21 rfl rfl (yv_move rfl) ?_
              refine ops_y hH21 rfl rfl (yv_pick_t rfl hc54 rfl) ?_
              refine ops_y hH21 rfl rfl (yv_move rfl) ?_
              have hc55 : ¬ ((Q.lowO (h - 1) (n - 1 - r)).2 = true) := fun hb => hnb ⟨by assumption, hb⟩
              refine guard_no rfl rfl (Bool.eq_false_iff.2 hc55) rfl ?_
              refine guard_no rfl rfl (Bool.eq_false_iff.2 hc55) rfl ?_
              refine guard_no rfl rfl (Bool.eq_false_iff.2 hc55) rfl ?_
              refine guard_no rfl rfl (Bool.eq_false_iff.2 hc55) rfl ?_
              refine guard_none rfl rfl rfl ?_
              refine guard_none rfl rfl rfl ?_
              refine guard_none rfl rfl rfl ?_
              refine guard_none rfl rfl rfl ?_
              refine guard_none rfl rfl rfl ?_
              refine guard_no rfl rfl (Bool.eq_false_iff.2 hc55) rfl ?_
              refine ops_y hH21 rfl rfl (yv_pick_f rfl (Bool.eq_false_iff.2 hc55) rfl) ?_
              refine ops_nil (thn_n ?_)
              refine cond_f rfl rfl ?_
              refine skip (blk_n (thn_n (region (ops_y hH21 rfl rfl (yv_move rfl) ?_))))
              refine ops_y hH21 rfl rfl (yv_add rfl rfl (by omega)) ?_
              refine ops_y hH21 rfl rfl (yv_assign rfl) (ops_nil ?_)
              have hH56 := (hH21.sub (List.Sublist.cons _ (List.Sublist.cons _ (List.Sublist.refl _))))
              refine lp_n (r + 1, o, v_6, lo_6, hi_6) (Sub.cons rfl (Sub.cons rfl (Sub.cons rfl (Sub.cons rfl (Sub.cons rfl (Sub.cons rfl (Sub.nil _))))))) ?_ ?_
              · exact ⟨(Heap.recast (n := 0) hH56 rfl (rfl)), by omega, hB.skip hno⟩
              · first | (dsimp only; omega) | (show _ < _; omega)
            · skip
              refine guard_no rfl rfl (Bool.eq_false_iff.2 hc54) rfl ?_
              refine ops_y hH21 rfl rfl (yv_pick_f rfl (Bool.eq_false_iff.2 hc54) rfl) ?_
              refine ops_y hH21 rfl rfl (yv_move rfl) (guard_no rfl rfl rfl rfl (guard_no rfl rfl rfl rfl (guard_no rfl rfl rfl rfl (guard_no rfl rfl rfl rfl ?_))))
              refine guard_none rfl rfl rfl ?_
              refine guard_none rfl rfl rfl ?_
              refine guard_none rfl rfl rfl ?_
              refine guard_none rfl rfl rfl ?_
              refine guard_none rfl rfl rfl ?_
              refine guard_no rfl rfl rfl rfl ?_
              refine ops_y hH21 rfl rfl (yv_pick_f rfl rfl rfl) ?_
              refine ops_nil (thn_n ?_)
              refine cond_f rfl rfl ?_
              refine skip (blk_n (thn_n (region (ops_y hH21 rfl rfl (yv_move rfl) ?_))))
              refine ops_y hH21 rfl rfl (yv_add rfl rfl (by omega)) ?_
              refine ops_y hH21 rfl rfl (yv_assign rfl) (ops_nil ?_)
              have hH57 := (hH21.sub (List.Sublist.cons _ (List.Sublist.cons _ (List.Sublist.refl _))))
              refine lp_n (r + 1, o, v_6, lo_6, hi_6) (Sub.cons rfl (Sub.cons rfl (Sub.cons rfl (Sub.cons rfl (Sub.cons rfl (Sub.cons rfl (Sub.nil _))))))) ?_ ?_
              · exact ⟨(Heap.recast (n := 0) hH57 rfl (rfl)), by omega, hB.skip hno⟩
              · first | (dsimp only; omega) | (show _ < _; omega)
        · skip
          refine cond_f rfl (decide_eq_false hc6) ?_
          refine exit (thn_x (lp_x (blk_here (thn_n (seq (region (ops_y hH5 rfl rfl (yv_move rfl) (ops_y hH5 rfl rfl (yv_move rfl) ?_))))))))
          refine ops_y hH5 rfl rfl (yv_len T.sl22 rfl (Heap.rdw T.el22_encI hH5 (n := 0) rfl).is) ?_
          refine ops_y hH5 rfl rfl (yv_gtr rfl rfl) ?_
          refine ops_y hH5 rfl rfl (yv_assign rfl) (ops_y hH5 rfl rfl (yv_assign rfl) (ops_nil (thn_n (ret ?_))))
          refine fin (hH5.front (n := 1) rfl) (fun w' hf => (res2 rfl (show RV _ _ _ (.tmp 4) _ from rfl) (show RV _ _ _ (.tmp 5) _ from rfl))) (fun w' hf => ?_)
          first | (rw [show n = 0 by omega, Q.lowO_nil]; exact ⟨_, rfl, own_nil⟩) | (rw [Q.lowO_none (by omega) (by omega)]; exact ⟨_, rfl, own_nil⟩) | exact Q.low_fin (h := h) (n := n) hn0 hh1 (by rw [show n = r by omega] at hB ⊢; exact hB) (Heap.own hf (n := 0) rfl) | exact Q.low_fin (h := h) (n := n) hn0 hh1 ((show r = n by omega) ▸ hB) (Heap.own hf (n := 0) rfl)

theorem c71 {n h : Nat} {z : Int} {w : World} (hz : z = (h : Int) - 1) (hn2 : n ≤ 12) (hh : h ≤ 12) : Fn Try.prog 71 #[.int .i64 (n : Int), .int .i64 z] w (fun u w => ∃ q, u = .tuple #[q, .bool (Q.lowO h n).2] ∧ Own 3 1 encI q (Q.lowO h n).1 w) := by
  induction h using Nat.strongRecOn generalizing n z w with
  | _ h ih => exact c71r hz hn2 hh (fun {n1 h1 z1 w1} hlt e1 e2 e3 => ih h1 hlt e1 e2 e3)

theorem c34 {n : Int} {w : World}  :
    Fn Try.prog 34 [(.int .i64 n)].toArray w (fun u w => ∃ q, u = .tuple #[q, .int .i64 (Q.lowR n).2] ∧ Own 3 1 encI q (Q.lowR n).1 w) := by
  refine fn_of' (args := [(.int .i64 n)]) Try.func34 rfl (ent Try.func34 (by kernel_rfl) rfl) rfl rfl (fun hH => ?_)
  refine seq (region (ops_y hH rfl rfl (yv_assign rfl) (ops_y hH rfl rfl (yv_assign rfl) (ops_nil (thn_n (seq (seq (region (ops_y hH rfl rfl (yv_move rfl) ?_)))))))))
  refine ops_y hH rfl rfl (yv_lss rfl rfl) ?_
  refine ops_y hH rfl rfl (yv_move rfl) ?_
  by_cases hc1 : n < 1
  · skip
    refine guard_no rfl rfl (decide_eq_true hc1) rfl ?_
    refine guard_no rfl rfl (decide_eq_true hc1) rfl ?_
    refine ops_y hH rfl rfl (yv_pick_t rfl (decide_eq_true hc1) rfl) ?_
    refine ops_nil (thn_n ?_)
    refine cond_t rfl rfl ?_
    refine seq (region (ops_y hH rfl rfl (yv_assign rfl) (ops_y hH rfl rfl (yv_assign rfl) (ops_nil (thn_n (ret (thn_r ?_)))))))
    refine fin hH (fun w' hf => (res2 rfl (show RV _ _ _ (.tmp 2) _ from rfl) (show RV _ _ _ (.tmp 3) _ from rfl))) (fun w' hf => ?_)
    first | (rw [Q.lr1 (by omega)]; exact ⟨_, rfl, own_nil⟩) | (rw [Q.lr2 (by omega), hlv, ← e1]; exact ⟨_, rfl, Heap.own hf (n := 0) rfl⟩)
  · skip
    refine guard_yes rfl rfl (decide_eq_false hc1) ?_
    refine ops_y hH rfl rfl (yv_move rfl) ?_
    refine guard_yes rfl rfl (decide_eq_false hc1) ?_
    refine ops_y hH rfl rfl (yv_gtr rfl rfl) ?_
    refine ops_y hH rfl rfl (yv_pick_f rfl (decide_eq_false hc1) rfl) ?_
    refine ops_nil (thn_n ?_)
    by_cases hc2 : 12 < n
    · skip
      refine cond_t rfl (decide_eq_true hc2) ?_
      refine seq (region (ops_y hH rfl rfl (yv_assign rfl) (ops_y hH rfl rfl (yv_assign rfl) (ops_nil (thn_n (ret (thn_r ?_)))))))
      refine fin hH (fun w' hf => (res2 rfl (show RV _ _ _ (.tmp 2) _ from rfl) (show RV _ _ _ (.tmp 3) _ from rfl))) (fun w' hf => ?_)
      first | (rw [Q.lr1 (by omega)]; exact ⟨_, rfl, own_nil⟩) | (rw [Q.lr2 (by omega), hlv, ← e1]; exact ⟨_, rfl, Heap.own hf (n := 0) rfl⟩)
    · skip
      refine cond_f rfl (decide_eq_false hc2) ?_
      refine skip (thn_n (seq (region (ops_y hH rfl rfl (yv_assign rfl) (ops_nil (thn_n (block ?_)))))))
      refine loop (S := Nat) (fun d => [(4, (.int .i64 (d : Int))), (0, (.int .i64 n))]) (fun d w1 => Heap [base w] w1 ∧ d ≤ 3 ∧ (d = 0 ∨ ¬ n.toNat ≤ 2 ^ d - 1)) (fun d => 4 - d) (0) (Sub.cons rfl (Sub.cons rfl (Sub.nil _))) ?_ ?_
      · exact ⟨hH, by omega, .inl rfl⟩
      · rintro d w3 ⟨hH4, hd, hd2⟩
        show Holds _ _ _ _ _ [(4, (.int .i64 (d : Int))), (0, (.int .i64 n))] _ _
        refine block (seq (region (ops_y hH4 rfl rfl (yv_move rfl) (ops_y hH4 rfl rfl (yv_move rfl) ?_))))
        refine op_fn rfl rfl rfl hH4 ((by have h := c71 (n := n.toNat) (h := d + 1) (z := (d : Int)) (w := w3) (by omega) (by omega) (by omega); rw [Int.toNat_of_nonneg (by omega)] at h; exact h)) (fun u7 w5 lo8 hi9 hH6 hv10 => ?_)
        obtain ⟨p12, hu, -⟩ := hv10
        subst hu
        have hH11 := Heap.tup2 hH6 (n := 0) rfl
        refine ops_y hH11 rfl rfl (yv_move rfl) (ops_y hH11 rfl rfl (yv_extract rfl rfl) (ops_y hH11 rfl rfl (yv_extract rfl rfl) (ops_y hH11 rfl rfl (yv_assign rfl) (ops_y hH11 rfl rfl (yv_assign rfl) (ops_nil (thn_n (seq (seq (region ?_)))))))))
        refine ops_y hH11 rfl rfl (yv_move rfl) (ops_nil (thn_n ?_))
        by_cases hc13 : (Q.lowO (d + 1) ((n).toNat)).2 = true
        · skip
          obtain ⟨e1, g1⟩ := Q.lowO_yes hc13
          have hp1 := Q.two_pos d
          have hlv := Q.lvl_ok (n := n.toNat) (d := d) (by omega) (by omega) hd (by omega) (by omega)
          refine cond_t rfl hc13 ?_
          refine seq (region (ops_y hH11 rfl rfl (yv_move rfl) (ops_y hH11 rfl rfl (yv_assign rfl) (ops_y hH11 rfl rfl (yv_assign rfl) (ops_nil (thn_n (ret (thn_r (blk_r ?_)))))))))
          refine lp_r (blk_r ?_)
          refine fin (hH11.front (n := 1) rfl) (fun w' hf => (res2 rfl (show RV _ _ _ (.tmp 2) _ from rfl) (show RV _ _ _ (.tmp 3) _ from rfl))) (fun w' hf => ?_)
          first | (rw [Q.lr1 (by omega)]; exact ⟨_, rfl, own_nil⟩) | (rw [Q.lr2 (by omega), hlv, ← e1]; exact ⟨_, rfl, Heap.own hf (n := 0) rfl⟩)
        · skip
          have hnf : ¬ n.toNat ≤ 2 ^ (d + 1) - 1 := fun k => by have hl := Q.lo1 k; simp [hl] at *
          have hd3 : d = 3 → 2 ^ (d + 1) = 16 := fun e => by subst e; rfl
          refine cond_f rfl (Bool.eq_false_iff.2 hc13) ?_
          refine skip (thn_n (region (ops_y hH11 rfl rfl (yv_move rfl) ?_)))
          refine ops_y hH11 rfl rfl (yv_add rfl rfl (by omega)) ?_
          refine ops_y hH11 rfl rfl (yv_assign rfl) (ops_nil (blk_n ?_))
          have hH14 := (hH11.sub (List.Sublist.cons _ (List.Sublist.refl _)))
          refine lp_n (d + 1) (Sub.cons rfl (Sub.cons rfl (Sub.nil _))) ?_ ?_
          · exact ⟨hH14, by omega, .inr hnf⟩
          · first | (dsimp only; omega) | (show _ < _; omega)

end Go.Fip
