/- Walks, by program (wip/tools). -/
import Derived.Test.YtlekkopaeiblfaaWn
import Derived.Test.YtlekkopaeiblfaaSu
set_option linter.unusedVariables false
set_option linter.unusedSimpArgs false
set_option linter.unusedSectionVars false
set_option linter.unnecessarySimpa false
namespace Go.Fip
open Go.Proofs Go.RowKit

theorem Rd.cut3n {α : Type} {enc : α → List Value} {sz : Nat} {v : Value} {xs : List α} {w : World} (h : Rd enc sz v xs w) : Rd enc sz (cutv3 v sz 0 xs.length xs.length) xs w := by
  have h2 := h.cut3 (lo := 0) (hi := xs.length) (m := xs.length) (Nat.zero_le _) (Nat.le_refl _) (Nat.le_refl _) (fun a n c e => by
    obtain ⟨a', c', e', hc, _⟩ := h.is
    rw [e'] at e
    cases e
    exact hc)
  simpa using h2
theorem cut3_shape {v : Value} {sz n : Nat} (h : SliceIs v n) : ∃ a, cutv3 v sz 0 n n = .slice a n n := by
  obtain ⟨a, c, rfl, _⟩ := h
  exact ⟨_, rfl⟩

theorem c75 {d m : Nat} {vb vt vf : Value} {js : List S.Pr} {B U F : List Int} {E : List (Int × Int)} {w : World} (hd : Day d vb vt vf m E w) (hB : Rd encI 1 vb B w) (hT : Rd encI 1 vt U w) (hF : Rd encI 1 vf F w) (hj : S.Jobs js) (hO : S.Ord js.length B U F) (hOK : S.DayOK js B U F E) (hp : E.length < 2 * js.length)  :
    Fn Try.prog 75 [(.pointer (some ⟨d, 0, none⟩))].toArray w (fun u w => ∃ c : List Int, Rd encI 1 u c w ∧ (2 ≤ c.length ∧ c.length ≤ 2 * js.length ∧ S.InC js.length c ∧ S.Circ B U F c)) := by
  refine fn_of' (args := [(.pointer (some ⟨d, 0, none⟩))]) Try.func75 rfl (ent Try.func75 (by kernel_rfl) rfl) rfl rfl (fun hH => ?_)
  have hO8 := hO
  obtain ⟨hlB, hlU, hlF, hOk⟩ := hO8
  have hl1 := hj.1
  have hl8 := hj.2.1
  obtain ⟨w0, hw0, hwn, hwr⟩ := hOK.part hp
  refine seq ?_
  refine region ?_
  refine op_box (us := [(.pointer (some ⟨d, 0, none⟩))]) rfl rfl rfl hH (fun b1 w2 hH3 => ?_)
  refine ops_y hH3 rfl rfl (yv_assign rfl) ?_
  refine ops_nil ?_
  refine thn_n ?_
  refine scope ?_
  refine seq ?_
  refine region ?_
  refine ops_y hH3 rfl rfl (yv_assign rfl) ?_
  refine ops_nil ?_
  refine thn_n ?_
  refine seq ?_
  refine region ?_
  refine ops_y hH3 rfl rfl (yv_load T.one98 rfl (fun _ hw => Heap.cellw hw (n := 0) rfl rfl)) ?_
  refine ops_y hH3 rfl rfl (yv_func rfl rfl) ?_
  refine ops_y hH3 rfl rfl (yv_assign rfl) ?_
  refine ops_nil ?_
  refine thn_n ?_
  refine seq ?_
  refine region ?_
  refine op_alloc (z := (.int .i64 0)) (us := [(.int .i64 0)]) (fun _ => by kernel_rfl) rfl rfl hH3 (fun b4 w5 hH6 => ?_)
  refine op_store (n := 0) (j := 0) (us := [(.int .i64 0)]) rfl rfl hH6 rfl T.sz3 rfl rfl rfl (by rfl) (fun w7 hH8 => ?_)
  refine ops_nil ?_
  refine thn_n ?_
  refine seq ?_
  refine block ?_
  have hH9 := ow_nil (enc := encI) 3 1 hH8
  refine loop (S := Nat) (fun a => [(1, (.pointer (some ⟨b1, 0, none⟩))), (2, (.slice none 0 0)), (3, (.slice none 0 0)), (4, (.func (.func 94) #[(.pointer (some ⟨d, 0, none⟩))] #[])), (5, (.pointer (some ⟨b4, 0, none⟩)))]) (fun a w1 => Heap [ow w7.heap.size w7.heap.size 3 1 encI (.slice none 0 0) ([] : List Int), bx b4 3 [(.int .i64 (a : Int))], bx b1 98 [(.pointer (some ⟨d, 0, none⟩))], base w] w1 ∧ a ≤ w0) (fun a => w0 - a) (0) (Sub.cons rfl (Sub.cons rfl (Sub.cons rfl (Sub.cons rfl (Sub.cons rfl (Sub.nil _)))))) ?_ ?_
  · exact ⟨hH9, by omega⟩
  · rintro a w10 ⟨hH11, ha⟩
    show Holds _ _ _ _ _ [(1, (.pointer (some ⟨b1, 0, none⟩))), (2, (.slice none 0 0)), (3, (.slice none 0 0)), (4, (.func (.func 94) #[(.pointer (some ⟨d, 0, none⟩))] #[])), (5, (.pointer (some ⟨b4, 0, none⟩)))] _ _
    refine block ?_
    refine seq ?_
    refine seq ?_
    refine region ?_
    refine ops_y hH11 rfl rfl (yv_move rfl) ?_
    refine ops_y hH11 rfl rfl (yv_load T.one3 rfl (fun _ hw => Heap.cellw hw (n := 1) rfl rfl)) ?_
    refine op_fnV rfl rfl rfl hH11 (c94 (hd.now hH11 (n := 3) rfl) (hB.now hH11 (n := 3) rfl) (hT.now hH11 (n := 3) rfl) (hF.now hH11 (n := 3) rfl) hO (by omega) (by omega) (by omega) hOK.hE) (fun w12 hH13 => ?_)
    refine ops_y hH13 rfl rfl (yv_move rfl) ?_
    refine ops_y hH13 rfl rfl (yv_extract rfl rfl) ?_
    refine ops_y hH13 rfl rfl (yv_extract rfl rfl) ?_
    refine ops_y hH13 rfl rfl (yv_assign rfl) ?_
    refine ops_y hH13 rfl rfl (yv_assign rfl) ?_
    refine ops_nil ?_
    refine thn_n ?_
    refine seq ?_
    refine region ?_
    refine ops_y hH13 rfl rfl (yv_move rfl) ?_
    refine ops_y hH13 rfl rfl (yv_not rfl) ?_
    refine ops_nil ?_
    refine thn_n ?_
    by_cases hc14 : (!((S.ready E B U F (a : Int)).2)) = true
    · skip
      have hna : (S.ready E B U F (a : Int)).2 = false := by simpa using hc14
      refine cond_t rfl hc14 ?_
      refine exit ?_
      refine thn_x ?_
      refine blk_on rfl ?_
      refine lp_x ?_
      refine blk_here ?_
      refine thn_n ?_
      refine seq ?_
      refine label ?_
      refine thn_n ?_
      refine seq ?_
      refine block ?_
      refine loopD (S := List Int × Int × List Nat × Value × Nat × Nat) (fun (Q, x, Ds, v_3, lo_3, hi_3) => [(3, v_3), (1, (.pointer (some ⟨b1, 0, none⟩))), (2, (.slice none 0 0)), (5, (.pointer (some ⟨b4, 0, none⟩)))]) (fun (Q, x, Ds, v_3, lo_3, hi_3) => Ds.map isMark) (fun (Q, x, Ds, v_3, lo_3, hi_3) w1 => Heap ([ow lo_3 hi_3 3 1 encI v_3 Q, bx b4 3 [(.int .i64 x)], bx b1 98 [(.pointer (some ⟨d, 0, none⟩))], base w] ++ Ds.map markItem) w1 ∧ S.Walk js B U F E Q x) (fun (Q, x, Ds, v_3, lo_3, hi_3) => 2 * js.length - Q.length) ([], (a : Int), [], (.slice none 0 0), w7.heap.size, w7.heap.size) rfl (Sub.cons rfl (Sub.cons rfl (Sub.cons rfl (Sub.cons rfl (Sub.nil _))))) ?_ ?_
      · exact ⟨(Heap.recast (n := 0) hH13 rfl (rfl)), S.Walk.start hOK (by omega) hna⟩
      · rintro ⟨Q, x, Ds, v_3, lo_3, hi_3⟩ w15 ⟨hH16, hW⟩
        show Holds _ _ _ _ _ [(3, v_3), (1, (.pointer (some ⟨b1, 0, none⟩))), (2, (.slice none 0 0)), (5, (.pointer (some ⟨b4, 0, none⟩)))] _ _
        obtain ⟨hr1, hr2, hr3, hr4⟩ := hO.row (x % 2)
        have hQl := hW.len
        have hx0 := hW.at0
        have hx1 := hW.at1
        refine block ?_
        refine seq ?_
        refine seq ?_
        refine region ?_
        refine ops_y hH16 rfl rfl (yv_move rfl) ?_
        refine ops_y hH16 rfl rfl (yv_load T.one3 rfl (fun _ hw => Heap.cellw hw (n := 1) rfl rfl)) ?_
        refine op_fnV rfl rfl rfl hH16 (c93 (Heap.rdw T.el39_encI hH16 (n := 0) rfl) (by omega)) (fun w17 hH18 => ?_)
        refine ops_y hH18 rfl rfl (yv_assign rfl) ?_
        refine ops_nil ?_
        refine thn_n ?_
        refine seq ?_
        refine region ?_
        refine ops_y hH18 rfl rfl (yv_move rfl) ?_
        refine ops_y hH18 rfl rfl (yv_geq rfl rfl) ?_
        refine ops_nil ?_
        refine thn_n ?_
        by_cases hc19 : 0 ≤ (S.place Q x)
        · skip
          obtain ⟨k, hk, hkp⟩ := S.place_nat (show 0 ≤ S.place Q x from ‹_›)
          refine cond_t rfl (decide_eq_true hc19) ?_
          refine seq ?_
          refine region ?_
          refine ops_y hH18 rfl rfl (yv_move rfl) ?_
          refine ops_y hH18 rfl rfl (yv_move rfl) ?_
          refine ops_y hH18 rfl rfl (yv_cut_lo T.sl39 rfl rfl (Heap.rdw T.el39_encI hH18 (n := 0) rfl).is (by omega)) ?_
          refine ops_y hH18 rfl rfl (yv_assign rfl) ?_
          refine ops_nil ?_
          refine thn_n ?_
          refine exit ?_
          refine thn_x ?_
          refine blk_on rfl ?_
          refine lp_x ?_
          refine blk_here ?_
          refine thn_n ?_
          refine seq ?_
          refine region ?_
          refine ops_y hH18 rfl rfl (yv_move rfl) ?_
          obtain ⟨g20, cap21, ev22, hc23, ec24, hin25⟩ := Ow.cut (q := k) (show Ow _ _ _ _ _ _ _ _ from hH18.get (n := 0) rfl) hk
          refine op_fnM (g := g20) (n := 0) rfl rfl rfl hH18 rfl hin25 ((show FnM _ _ [cutv v_3 1 (S.place Q x).toNat Q.length].toArray _ _ _ from by rw [show (S.place Q x).toNat = k by omega, ec24]; exact c95 (n := Q.length) (cap := cap21) (by have h := Heap.own hH18 (n := 0) rfl; rwa [ev22] at h) (by omega) (by omega) rfl (by omega))) (fun u28 w26 hH27 hv29 => ?_)
          refine ops_nil ?_
          refine thn_n ?_
          refine seq ?_
          refine region ?_
          refine ops_y hH27 rfl rfl (yv_move rfl) ?_
          refine ops_y hH27 rfl rfl (yv_assign rfl) ?_
          refine ops_nil ?_
          refine thn_n ?_
          refine ret ?_
          refine scp_r ?_
          have hH30 := (hH27.sub (List.Sublist.cons_cons _ (List.Sublist.cons _ (List.Sublist.cons _ (List.Sublist.refl _)))))
          refine fin_m (H := [⟨lo_3, hi_3, fun w => Rd encI 1 (.slice (some ⟨g20, k, none⟩) (Q.length - k) (cap21 - k)) (Q.drop k).reverse w⟩]) Ds (hH30.front (n := 1) rfl) (fun w' hf => (res1 rfl (show RV _ _ _ (.tmp 2) _ from rfl))) (fun w' hf => ?_)
          exact ⟨_, by rw [show (S.place Q x).toNat = k by omega, ec24]; exact hf.get (n := 0) rfl, hW.circle hkp⟩
        · skip
          have hnp : S.place Q x < 0 := by omega
          refine cond_f rfl (decide_eq_false hc19) ?_
          refine skip ?_
          refine thn_n ?_
          refine seq ?_
          obtain ⟨ac, hce⟩ := cut3_shape (sz := 1) (Heap.rdw T.el39_encI hH18 (n := 0) rfl).is
          refine region_draw (fun w' => True) T.mixed (fun w31 hr32 => ?_)
          have hH33 := hH18.redrawn hr32
          refine any_takes [0, 1, 2, 3, 4, 5] (by kernel_rfl) trivial _ _ _ (by kernel_rfl) ?_
          refine qs_y rfl rfl (yv_move rfl) ?_
          refine qs_y rfl rfl (yv_move rfl) ?_
          refine qs_y rfl rfl (yv_len T.sl39 rfl (Heap.rdw T.el39_encI hH33 (n := 0) rfl).is) ?_
          refine qs_y rfl rfl (yv_move rfl) ?_
          refine qs_y rfl rfl (yv_len T.sl39 rfl (Heap.rdw T.el39_encI hH33 (n := 0) rfl).is) ?_
          refine qs_y rfl rfl (yv_cut3 T.sl39 rfl rfl rfl (Heap.rdw T.el39_encI hH33 (n := 0) rfl).is (by omega)) ?_
          refine qs_nil ?_
          refine any_all [6] (by kernel_rfl) rfl ?_
          refine ⟨⟨_, rfl, ?_⟩, trivial⟩
          · skip
            refine ops_y hH33 rfl rfl (yv_load T.one3 rfl (fun _ hw => Heap.cellw hw (n := 1) rfl rfl)) ?_
            refine ops_nil ?_
            refine ⟨trivial, ?_⟩
            refine any_all [7] (by kernel_rfl) rfl ?_
            refine ⟨⟨_, rfl, ?_⟩, trivial⟩
            · skip
              refine op_lit (us := [(0, (.int .i64 x))]) T.el39_encI [x] rfl (by decide) rfl (fun a ha => by simp [ha.ev (show ev _ (.tmp 38) = some _ from rfl)]) (fun w => by kernel_rfl) hH33 (fun u34 lo36 hi37 w35 hH38 => ?_)
              refine ops_nil ?_
              refine ⟨trivial, ?_⟩
              refine any_all [8] (by kernel_rfl) rfl ?_
              refine ⟨⟨_, rfl, ?_⟩, trivial⟩
              · skip
                refine op_append_new T.el39_encI rfl hce rfl rfl hH38 (Rd.cut3n (Heap.rdw T.el39_encI hH38 (n := 1) rfl) ) (Heap.rdw T.el39_encI hH38 (n := 0) rfl) (by simp) (by first | omega | (simp only [List.length_append, List.length_cons, List.length_nil]; omega)) (fun u39 lo41 hi42 w40 hH43 => ?_)
                refine ops_nil ?_
                refine ⟨trivial, ?_⟩
                refine any_takes [9] (by kernel_rfl) trivial _ _ _ (by kernel_rfl) ?_
                refine qs_y rfl rfl (yv_assign rfl) ?_
                refine qs_nil ?_
                refine any_done (by kernel_rfl) ?_
                refine thn_n ?_
                refine seq ?_
                refine region ?_
                refine ops_y hH43 rfl rfl (yv_load T.one98 rfl (fun _ hw => Heap.cellw hw (n := 4) rfl rfl)) ?_
                refine ops_y hH43 rfl rfl (yv_load T.one3 rfl (fun _ hw => Heap.cellw hw (n := 3) rfl rfl)) ?_
                refine op_fn rfl rfl rfl hH43 (c79 (hd.now hH43 (n := 5) rfl) (hB.now hH43 (n := 5) rfl) (hT.now hH43 (n := 5) rfl) (by omega) (by omega)) (fun u49 w47 lo50 hi51 hH48 hv52 => ?_)
                obtain ⟨c44, c45, c46, hu, -⟩ := hv52
                subst hu
                have hH53 := Heap.cap hH48 (n := 0) rfl
                refine ops_nil ?_
                refine thn_n ?_
                refine block ?_
                refine rangeFunc (xs := ((S.pre B U F x).map (Value.int .i64))) rfl (it98 (d := d) (m := m) (vb := vb) (vt := vt) (vf := vf) (rv := (if x % 2 = 1 then vt else vb)) (L := S.row B U (x % 2)) (F := F) (x := x) (by omega) (by omega) (by omega) (by omega) (fun i h0 h1 => by have := (hO.row (x % 2)).2.1 i h0 (by omega); omega)) rfl hH53 (fun i H => H = [⟨lo50, hi51, Cap c44 c45 c46 d (if x % 2 = 1 then vt else vb) x⟩, ow lo41 hi42 3 1 encI u39 (Q ++ [x]), ow lo36 hi37 3 1 encI u34 [x], ow lo_3 hi_3 3 1 encI v_3 Q, bx b4 3 [(.int .i64 x)], bx b1 98 [(.pointer (some ⟨d, 0, none⟩))], base w] ++ Ds.map markItem ∧ ∀ j, j < i → ¬ find (nth (S.pre B U F x) (j : Int)) E = none) (fun c H => ∃ y : Int, c = (.exit 3) ∧ H = [⟨lo50, hi51, Cap c44 c45 c46 d (if x % 2 = 1 then vt else vb) x⟩, ow lo41 hi42 3 1 encI u39 (Q ++ [x]), ow lo36 hi37 3 1 encI u34 [x], ow lo_3 hi_3 3 1 encI v_3 Q, bx b4 3 [(.int .i64 y)], bx b1 98 [(.pointer (some ⟨d, 0, none⟩))], base w] ++ Ds.map markItem ∧ y ∈ (S.pre B U F x) ∧ find y E = none) ⟨rfl, S.all_zero⟩ (fun i H w hI hw => ?_) (fun l54 D55 i56 x57 H w59 rc hx58 hI hH60 => ?_) (fun D55 H w59 hI hH60 => ?_) (fun D55 c H w59 hI hH60 => ?_)
                · skip
                  obtain ⟨rfl, _⟩ := hI
                  exact ⟨hw.get (n := 0) rfl, (hd.now hw (n := 6) rfl).1, rd_row (hB.now hw (n := 6) rfl) (hT.now hw (n := 6) rfl), (hF.now hw (n := 6) rfl)⟩
                · skip
                  obtain ⟨rfl, hall⟩ := hI
                  obtain ⟨hlt, hxe⟩ := map_get hx58
                  subst hxe
                  refine region ?_
                  refine ops_y hH60 rfl rfl (yv_assign rfl) ?_
                  refine ops_nil ?_
                  refine ⟨_, hH60, fun w61 hH62 => ?_⟩
                  refine block ?_
                  refine seq ?_
                  refine region ?_
                  refine ops_y hH62 rfl rfl (yv_load T.one98 rfl (fun _ hw => Heap.cellw hw (n := 7) rfl rfl)) ?_
                  refine ops_y hH62 rfl rfl (yv_nilck rfl) ?_
                  refine ops_y hH62 rfl rfl (yv_field T.f103_1 rfl) ?_
                  refine ops_y hH62 rfl rfl (yv_load T.one101 rfl (fun _ hw => bx_cell ((hd.now hw (n := 8) rfl).1) rfl)) ?_
                  refine ops_y hH62 rfl rfl (yv_move rfl) ?_
                  refine ops_y hH62 rfl rfl (yv_build (v := (.agg #[(.int .i64 (nth (S.pre B U F x) (i56 : Int)))])) (us := [(0, (.int .i64 (nth (S.pre B U F x) (i56 : Int))))]) (fun a ha => by simp [ha.ev (show ev _ (.tmp 50) = some _ from rfl)]) (fun w => by kernel_rfl)) ?_
                  refine ops_y hH62 rfl rfl (yv_lookup2 (k := nth (S.pre B U F x) (i56 : Int)) T.m101 rfl rfl (fun _ hw => ((hd.now hw (n := 8) rfl).2))) ?_
                  refine ops_y hH62 rfl rfl (yv_move rfl) ?_
                  refine ops_y hH62 rfl rfl (yv_extract rfl rfl) ?_
                  refine ops_y hH62 rfl rfl (yv_extract rfl rfl) ?_
                  refine ops_y hH62 rfl rfl (yv_assign rfl) ?_
                  refine ops_y hH62 rfl rfl (yv_assign rfl) ?_
                  refine ops_nil ?_
                  refine thn_n ?_
                  refine seq ?_
                  refine region ?_
                  refine ops_y hH62 rfl rfl (yv_move rfl) ?_
                  refine ops_y hH62 rfl rfl (yv_not rfl) ?_
                  refine ops_nil ?_
                  refine thn_n ?_
                  by_cases hc63 : (!((find (nth (S.pre B U F x) (i56 : Int)) E).isSome)) = true
                  · skip
                    refine cond_t rfl hc63 ?_
                    refine seq ?_
                    refine region ?_
                    refine ops_y hH62 rfl rfl (yv_move rfl) ?_
                    refine op_store (n := 6) (j := 0) (us := [(.int .i64 (nth (S.pre B U F x) (i56 : Int)))]) rfl rfl hH62 rfl T.sz3 rfl rfl rfl (by rfl) (fun w64 hH65 => ?_)
                    refine ops_nil ?_
                    refine thn_n ?_
                    refine exit ?_
                    refine blk_on rfl ?_
                    exact ⟨_, ⟨_, ⟨nth (S.pre B U F x) (i56 : Int), rfl, rfl, ⟨S.nth_mem hlt, S.isnone ‹_›⟩⟩, rfl⟩, hH65⟩
                  · skip
                    refine cond_f rfl (Bool.eq_false_iff.2 hc63) ?_
                    refine skip ?_
                    refine blk_n ?_
                    exact ⟨_, ⟨_, ⟨rfl, S.all_snoc hall (S.notnone ‹_›)⟩, rfl⟩, hH62⟩
                · skip
                  obtain ⟨rfl, hall⟩ := hI
                  have hH66 := (show Heap (_ :: (_ ++ _)) _ from hH60).mark
                  exact (hW.stuck hOK hO (by rw [List.length_map] at hall; exact hall)).elim
                · skip
                  obtain ⟨y, rfl, rfl, ⟨hym, hyn⟩⟩ := hI
                  have hH67 := (show Heap (_ :: (_ ++ _)) _ from hH60).mark
                  have hwk := hW.next hnp hO hym hyn
                  refine exit ?_
                  refine blk_on rfl ?_
                  refine blk_here ?_
                  have hH68 := (hH67.sub (List.Sublist.cons _ (List.Sublist.cons_cons _ (List.Sublist.cons _ (List.Sublist.cons _ (List.Sublist.refl _))))))
                  refine lp_n (Q ++ [x], y, (D55 :: Ds), u39, lo41, hi42) (Sub.cons rfl (Sub.cons rfl (Sub.cons rfl (Sub.cons rfl (Sub.nil _))))) ?_ ?_
                  · exact ⟨hH68, hwk⟩
                  · (show _ < _; have := hwk.len; simp only [List.length_append, List.length_singleton] at this ⊢; omega)
    · skip
      have hra : (S.ready E B U F (a : Int)).2 = true := by simpa using (Bool.eq_false_iff.2 hc14)
      have hne : a + 1 ≤ w0 := Nat.lt_of_le_of_ne ha (fun h => by subst h; rw [hra] at hwr; cases hwr)
      refine cond_f rfl (Bool.eq_false_iff.2 hc14) ?_
      refine skip ?_
      refine thn_n ?_
      refine region ?_
      refine ops_y hH13 rfl rfl (yv_load T.one3 rfl (fun _ hw => Heap.cellw hw (n := 1) rfl rfl)) ?_
      refine ops_y hH13 rfl rfl (yv_add rfl rfl (by omega)) ?_
      refine op_store (n := 1) (j := 0) (us := [(.int .i64 ((a : Int) + 1))]) rfl rfl hH13 rfl T.sz3 rfl rfl rfl (by rfl) (fun w69 hH70 => ?_)
      refine ops_nil ?_
      refine blk_n ?_
      refine lp_n (a + 1) (Sub.cons rfl (Sub.cons rfl (Sub.cons rfl (Sub.cons rfl (Sub.cons rfl (Sub.nil _)))))) ?_ ?_
      · exact ⟨hH70, hne⟩
      · first | (dsimp only; omega) | (show _ < _; omega)

end Go.Fip
