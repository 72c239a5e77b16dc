/- Joined texts: Wr, Ws, Wt, Wu, Wv. -/
import Derived.Test.YticpcefbokhgfaaME
import Derived.Test.YticpcefbokhgfaaMC
import Derived.Test.YticpcefbokhgfaaMB
set_option linter.unusedVariables false
set_option linter.unusedSimpArgs false
set_option linter.unusedSectionVars false
set_option linter.unnecessarySimpa false
namespace Go.Fip
open Go.Proofs Go.RowKit

theorem T.eqi100 : EqI Try.prog 100 11 := eqi_arr (i := Try.t3) Try.underlying100 (by kernel_rfl) (by kernel_rfl) (fun _ => by kernel_rfl) (by kernel_rfl) (by kernel_rfl)
theorem lcl {l : List Int} {i : Nat} : ((S.circ l (((S.mins l).getD i 0 : Nat) : Int)).length : Int) = (S.len l i : Int) := congrArg (fun z : Nat => (z : Int)) S.circ_length

theorem c93 {b : Nat} {v : Value} {l : List Int} {w : World} (hb : Bx b 89 [v] w) (h0 : Rd encI 1 v l w) (hj : S.J l)  :
    Fn Try.prog 93 [(.pointer (some ⟨b, 0, none⟩))].toArray w (fun u _ => u = ag (S.counts l)) := by
  refine fn_of' (args := [(.pointer (some ⟨b, 0, none⟩))]) Try.func93 rfl (ent Try.func93 (by kernel_rfl) rfl) rfl rfl (fun hH => ?_)
  have hl10 := hj.2.1
  refine seq (region ?_)
  refine op_alloc (z := (.agg #[(.int .i64 0), (.int .i64 0), (.int .i64 0), (.int .i64 0), (.int .i64 0), (.int .i64 0), (.int .i64 0), (.int .i64 0), (.int .i64 0), (.int .i64 0), (.int .i64 0)])) (us := [(.int .i64 0), (.int .i64 0), (.int .i64 0), (.int .i64 0), (.int .i64 0), (.int .i64 0), (.int .i64 0), (.int .i64 0), (.int .i64 0), (.int .i64 0), (.int .i64 0)]) (fun _ => by kernel_rfl) rfl rfl hH (fun b1 w2 hH3 => ?_)
  refine ops_nil (thn_n (seq (region ?_)))
  refine op_alloc (z := (.agg #[(.int .i64 0), (.int .i64 0), (.int .i64 0), (.int .i64 0), (.int .i64 0), (.int .i64 0), (.int .i64 0), (.int .i64 0), (.int .i64 0), (.int .i64 0), (.int .i64 0)])) (us := [(.int .i64 0), (.int .i64 0), (.int .i64 0), (.int .i64 0), (.int .i64 0), (.int .i64 0), (.int .i64 0), (.int .i64 0), (.int .i64 0), (.int .i64 0), (.int .i64 0)]) (fun _ => by kernel_rfl) rfl rfl hH3 (fun b4 w5 hH6 => ?_)
  refine ops_nil (thn_n (seq ?_))
  have hH7 := Heap.recastBx hH6 (n := 0) rfl (show [(.int .i64 0), (.int .i64 0), (.int .i64 0), (.int .i64 0), (.int .i64 0), (.int .i64 0), (.int .i64 0), (.int .i64 0), (.int .i64 0), (.int .i64 0), (.int .i64 0)] = ints (List.replicate 11 (0 : Int)) from rfl)
  refine region ?_
  refine ops_y hH7 rfl rfl (yv_all T.arr100 rfl) ?_
  refine op_clearA T.el22_encI T.z22_encI (C := (List.replicate 11 (0 : Int))) rfl (by first | rfl | omega) (by decide) rfl hH7 (n := 0) rfl (fun w8 hH9 => ?_)
  refine ops_nil (thn_n (seq (seq ?_)))
  have hH10 := Heap.recastBx hH9 (n := 0) rfl (show (ints (List.replicate 11 (0 : Int))) = ints (S.cnts l 0) from congrArg ints S.cnts_zero)
  refine region (ops_y hH10 rfl rfl (yv_move rfl) ?_)
  refine op_fn rfl rfl rfl hH10 (c74) (fun u13 w11 lo14 hi15 hH12 hv16 => ?_)
  obtain ⟨cb17, hu, -⟩ := hv16
  subst hu
  have hH18 := Heap.cap1 hH12 (n := 0) rfl
  refine ops_nil (thn_n (block ?_))
  refine rangeFuncF (n := (S.cyc l)) rfl (it104 (b1 := cb17) (b := b) (v := v) hj) rfl hH18 (fun i H => H = [⟨lo14, hi15, Bx cb17 73 [(.pointer (some ⟨b, 0, none⟩))]⟩, bx b4 100 (ints (S.cnts l i)), bx b1 100 [(.int .i64 0), (.int .i64 0), (.int .i64 0), (.int .i64 0), (.int .i64 0), (.int .i64 0), (.int .i64 0), (.int .i64 0), (.int .i64 0), (.int .i64 0), (.int .i64 0)], base w] ∧ True) (fun c H => False) ⟨rfl, trivial⟩ (fun i H w hI hw => ?_) (fun l19 D20 i21 x22 lo26 hi27 H w24 rc hx23 hI hH25 => ?_) (fun D20 H w24 hI hH25 => ?_) (fun D20 c H w24 hI hH25 => ?_)
  · skip
    obtain ⟨rfl, _⟩ := hI
    exact ⟨hw.get (n := 0) rfl, (hb.now hw (n := 3) rfl), (h0.now hw (n := 3) rfl)⟩
  · skip
    obtain ⟨rfl, _⟩ := hI
    have hH28 := Heap.toOw hH25 (n := 2) rfl
    refine region (ops_y hH28 rfl rfl (yv_assign rfl) (ops_nil ?_))
    refine ⟨_, hH28, fun w29 hH30 => ?_⟩
    refine block ?_
    have hll := hj.len_le (i := i21) (by omega)
    have hlc := lcl (l := l) (i := i21)
    have hcl := S.cnts_length (l := l) (i := i21)
    have hcb := S.cnts_bd (l := l) (i := i21) (p := S.len l i21) (by omega)
    have hcy := hj.cyc_le
    have hnq : nth (S.cnts l i21) ((S.circ l (((S.mins l).getD i21 0 : Nat) : Int)).length : Int) = nth (S.cnts l i21) (S.len l i21 : Int) := by rw [hlc]
    have hcs : (S.cnts l i21).set ((S.circ l (((S.mins l).getD i21 0 : Nat) : Int)).length : Int).toNat (nth (S.cnts l i21) ((S.circ l (((S.mins l).getD i21 0 : Nat) : Int)).length : Int) + 1) = S.cnts l (i21 + 1) := by rw [hlc]; exact S.cnts_succ (by omega)
    refine region (ops_y hH30 rfl rfl (yv_move rfl) ?_)
    refine ops_y hH30 rfl rfl (yv_len T.sl22 rfl (Heap.rdw T.el22_encI hH30 (n := 2) rfl).is) ?_
    refine ops_y hH30 rfl rfl (yv_indexA T.arr100 rfl rfl (by omega)) ?_
    refine ops_y hH30 rfl rfl (yv_loadE T.one3 rfl (by omega) (fun _ hw => Heap.bxw hw (n := 4) rfl)) ?_
    refine ops_y hH30 rfl rfl (yv_add rfl rfl (by omega)) ?_
    refine ops_y hH30 rfl rfl (yv_indexA T.arr100 rfl rfl (by omega)) ?_
    refine op_setA (n := 4) rfl rfl hH30 rfl T.sz3 (by omega) (fun w31 hH32 => ?_)
    refine ops_nil (blk_n ?_)
    have hH33 := (hH32.sub (List.Sublist.cons_cons _ (List.Sublist.cons_cons _ (List.Sublist.cons _ (List.Sublist.refl _)))))
    exact ⟨_, ⟨_, ⟨rfl, trivial⟩, rfl⟩, (Heap.recastBx (n := 3) hH33 rfl (congrArg ints hcs))⟩
  · skip
    obtain ⟨rfl, _⟩ := hI
    have hH34 := hH25.perm (List.perm_append_comm (l₁ := [_]))
    refine blk_n (thn_n (seq ?_))
    have hcl := S.cnts_length (l := l) (i := S.cyc l)
    have hcl2 := S.counts_length (l := l)
    refine region ?_
    refine ops_y hH34 rfl rfl (yv_loadC T.agg100 (by omega) rfl (fun _ hw => Heap.bxw hw (n := 1) rfl)) ?_
    refine op_putA (n := 2) rfl rfl hH34 rfl T.sz100 (by omega) (by first | rfl | (rw [ints_len]; omega)) (fun w35 hH36 => ?_)
    refine ops_nil (thn_n (ret ?_))
    have hH37 := (hH36.sub (List.Sublist.cons _ (List.Sublist.cons _ (List.Sublist.refl _))))
    refine fin_m (H := [bx b1 100 (ints (S.cnts l (S.cyc l)))]) [D20] (hH37.front (n := 1) rfl) (fun w' hf => (res1 rfl (rvC rfl T.agg100 (by omega) (Heap.bxw hf (n := 1) rfl)))) (fun w' hf => ?_)
    exact congrArg ag S.cnts_done
  · skip
    exact hI.elim

theorem c96 {b : Nat} {v : Value} {l : List Int} {w : World} (hb : Bx b 89 [v] w) (h0 : Rd encI 1 v l w) (hj : S.J l)  :
    Fn Try.prog 96 [(.pointer (some ⟨b, 0, none⟩))].toArray w (fun u _ => u = .int .i64 (S.noneL l : Int)) := by
  refine fn_of' (args := [(.pointer (some ⟨b, 0, none⟩))]) Try.func96 rfl (ent Try.func96 (by kernel_rfl) rfl) rfl rfl (fun hH => ?_)
  have hl10 := hj.2.1
  have hcl := S.counts_length (l := l)
  refine seq (region (ops_y hH rfl rfl (yv_assign rfl) (ops_nil (thn_n (seq (seq (region (ops_y hH rfl rfl (yv_move rfl) ?_))))))))
  refine op_fnV rfl rfl rfl hH (c93 ((hb.now hH (n := 0) rfl)) (h0.now hH (n := 0) rfl) hj) (fun w1 hH2 => ?_)
  refine ops_y hH2 rfl rfl (yv_move rfl) (ops_nil (thn_n (block ?_)))
  refine loop (S := Nat) (fun k => [(7, (.int .i64 (k : Int))), (6, (ag (S.counts l)))]) (fun k w1 => Heap [base w] w1 ∧ k ≤ 11 ∧ ∀ i, i < k → S.noneP l i = false) (fun k => 11 - k) (0) (Sub.cons rfl (Sub.cons rfl (Sub.nil _))) ?_ ?_
  · exact ⟨hH2, by omega, S.all_zero⟩
  · rintro k w3 ⟨hH4, hk, hall⟩
    show Holds _ _ _ _ _ [(7, (.int .i64 (k : Int))), (6, (ag (S.counts l)))] _ _
    refine seq (region ?_)
    refine ops_y hH4 rfl rfl (yv_lss rfl rfl) ?_
    refine ops_nil (thn_n (seq ?_))
    by_cases hc5 : (k : Int) < 11
    · skip
      refine cond_t rfl (decide_eq_true hc5) ?_
      refine skip (thn_n (seq (block (seq ?_))))
      have hnc := S.nth_counts (l := l) (p := k) (by omega)
      have hml := S.many_le (p := k) hj
      refine region (ops_y hH4 rfl rfl (yv_move rfl) ?_)
      refine ops_y hH4 rfl rfl (yv_idxA T.arr100 T.one3 rfl rfl (by omega) (by omega)) ?_
      refine ops_y hH4 rfl rfl (yv_assign rfl) (ops_y hH4 rfl rfl (yv_assign rfl) (ops_nil (thn_n (seq (region (ops_y hH4 rfl rfl (yv_move rfl) ?_))))))
      refine ops_y hH4 rfl rfl (yv_rem rfl rfl (by omega) (by omega)) ?_
      refine ops_y hH4 rfl rfl (yv_eql rfl rfl) ?_
      refine ops_y hH4 rfl rfl (yv_move rfl) ?_
      by_cases hc6 : ((k : Int) % 2) = 0
      · skip
        refine guard_yes rfl rfl (decide_eq_true hc6) ?_
        refine ops_y hH4 rfl rfl (yv_move rfl) ?_
        refine guard_yes rfl rfl (decide_eq_true hc6) ?_
        refine ops_y hH4 rfl rfl (yv_rem rfl rfl (by omega) (by omega)) ?_
        refine guard_yes rfl rfl (decide_eq_true hc6) ?_
        refine ops_y hH4 rfl rfl (yv_eql rfl rfl) ?_
        refine ops_y hH4 rfl rfl (yv_pick_t rfl (decide_eq_true hc6) rfl) ?_
        refine ops_nil (thn_n ?_)
        by_cases hc7 : ((nth (S.counts l) (k : Int)) % 2) = 1
        · skip
          refine cond_t rfl (decide_eq_true hc7) ?_
          refine seq ?_
          have hp : S.noneP l k = true := decide_eq_true (by omega)
          refine region (ops_y hH4 rfl rfl (yv_move rfl) (ops_y hH4 rfl rfl (yv_assign rfl) (ops_nil (thn_n (ret (blk_r (thn_r (lp_r (blk_r ?_)))))))))
          refine thn_r ?_
          refine fin hH4 (fun w' hf => (res1 rfl (show RV _ _ _ (.tmp 2) _ from rfl))) (fun w' hf => ?_)
          first | exact congrArg (fun z : Nat => Value.int .i64 (z : Int)) (S.noneL_hit (by omega) hp hall).symm | exact congrArg (fun z : Nat => Value.int .i64 (z : Int)) (S.noneL_miss (fun i hi => hall i (by omega))).symm
        · skip
          refine cond_f rfl (decide_eq_false hc7) ?_
          refine skip (blk_n (thn_n ?_))
          have hp : S.noneP l k = false := decide_eq_false (by omega)
          refine region ?_
          refine ops_y hH4 rfl rfl (yv_add rfl rfl (by omega)) ?_
          refine ops_y hH4 rfl rfl (yv_move rfl) (ops_nil ?_)
          refine lp_n (k + 1) (Sub.cons rfl (Sub.cons rfl (Sub.nil _))) ?_ ?_
          · exact ⟨hH4, by omega, S.all_snoc hall hp⟩
          · first | (dsimp only; omega) | (show _ < _; omega)
      · skip
        refine guard_no rfl rfl (decide_eq_false hc6) rfl ?_
        refine guard_no rfl rfl (decide_eq_false hc6) rfl ?_
        refine guard_no rfl rfl (decide_eq_false hc6) rfl ?_
        refine ops_y hH4 rfl rfl (yv_pick_f rfl (decide_eq_false hc6) rfl) ?_
        refine ops_nil (thn_n ?_)
        refine cond_f rfl rfl ?_
        refine skip (blk_n (thn_n ?_))
        have hp : S.noneP l k = false := decide_eq_false (by omega)
        refine region ?_
        refine ops_y hH4 rfl rfl (yv_add rfl rfl (by omega)) ?_
        refine ops_y hH4 rfl rfl (yv_move rfl) (ops_nil ?_)
        refine lp_n (k + 1) (Sub.cons rfl (Sub.cons rfl (Sub.nil _))) ?_ ?_
        · exact ⟨hH4, by omega, S.all_snoc hall hp⟩
        · first | (dsimp only; omega) | (show _ < _; omega)
    · skip
      refine cond_f rfl (decide_eq_false hc5) ?_
      refine exit (thn_x (lp_x (blk_here (thn_n (seq (region (ops_y hH4 rfl rfl (yv_assign rfl) (ops_nil (thn_n ?_)))))))))
      refine ret ?_
      refine fin hH4 (fun w' hf => (res1 rfl (show RV _ _ _ (.tmp 2) _ from rfl))) (fun w' hf => ?_)
      first | exact congrArg (fun z : Nat => Value.int .i64 (z : Int)) (S.noneL_hit (by omega) hp hall).symm | exact congrArg (fun z : Nat => Value.int .i64 (z : Int)) (S.noneL_miss (fun i hi => hall i (by omega))).symm

theorem c44 {v : Value} {l : List Int} {w : World} (h0 : Rd encI 1 v l w) (hn : l.length ≤ 1000000)  :
    Fn Try.prog 44 [v].toArray w (fun u _ => u = .tuple #[.int .i64 (S.noneR l).1, .int .i64 (S.noneR l).2]) := by
  refine fn_of' (args := [v]) Try.func44 rfl (ent Try.func44 (by kernel_rfl) rfl) rfl rfl (fun hH => ?_)
  refine seq (region (ops_y hH rfl rfl (yv_assign rfl) (ops_y hH rfl rfl (yv_assign rfl) (ops_nil (thn_n (seq ?_))))))
  by_cases hc1 : S.check l 0 = 0
  · skip
    have hc0 : S.check l 0 = 0 := ‹_›
    have hj : S.J l := S.check_iff.1 hc0
    have hl1 := hj.1
    have hl10 := hj.2.1
    refine region (ops_y hH rfl rfl (yv_move rfl) ?_)
    refine op_fn rfl rfl rfl hH (c72 (h0.now hH (n := 0) rfl) (by omega) hj) (fun u4 w2 lo5 hi6 hH3 hv7 => ?_)
    obtain ⟨b8, r9, hu, hb10⟩ := hv7
    subst hu
    obtain ⟨g11, hH12⟩ := Heap.toBench hH3 (n := 0) rfl (fun w' h => by obtain ⟨b1, v1, e, h⟩ := h; cases e; exact ⟨v1, h⟩) hb10 (by omega)
    refine ops_y hH12 rfl rfl (yv_move rfl) (ops_y hH12 rfl rfl (yv_extract rfl rfl) (ops_y hH12 rfl rfl (yv_extract rfl rfl) (ops_y hH12 rfl rfl (yv_assign rfl) (ops_y hH12 rfl rfl (yv_assign rfl) (ops_nil (thn_n (seq (seq (region ?_)))))))))
    refine ops_y hH12 rfl rfl (yv_move rfl) ?_
    refine ops_y hH12 rfl rfl (yv_neq rfl rfl) ?_
    refine ops_nil (thn_n ?_)
    refine cond_f rfl rfl ?_
    refine skip (thn_n (seq (region (ops_y hH12 rfl rfl (yv_move rfl) ?_))))
    refine op_fnV rfl rfl rfl hH12 (c96 (Heap.bxw hH12 (n := 1) rfl) (Heap.rdw T.el22_encI hH12 (n := 0) rfl) hj) (fun w13 hH14 => ?_)
    refine ops_y hH14 rfl rfl (yv_assign rfl) (ops_nil (thn_n (seq (seq (region (ops_y hH14 rfl rfl (yv_move rfl) ?_))))))
    refine ops_y hH14 rfl rfl (yv_eql rfl rfl) ?_
    refine ops_nil (thn_n ?_)
    by_cases hc15 : (S.noneL l : Int) = 0
    · skip
      refine cond_t rfl (decide_eq_true hc15) ?_
      refine seq (region (ops_y hH14 rfl rfl (yv_assign rfl) (ops_y hH14 rfl rfl (yv_assign rfl) (ops_nil (thn_n (ret (thn_r ?_)))))))
      have hH16 := (hH14.sub (List.Sublist.cons _ (List.Sublist.cons _ (List.Sublist.refl _))))
      refine fin hH16 (fun w' hf => (res2 rfl (show RV _ _ _ (.tmp 2) _ from rfl) (show RV _ _ _ (.tmp 3) _ from rfl))) (fun w' hf => ?_)
      first | exact tup2 (S.no1 hcn) | exact tup2 (S.no2 hc0 (by omega)) | exact tup2 (S.no3 hc0 (by omega))
    · skip
      refine cond_f rfl (decide_eq_false hc15) ?_
      refine skip (thn_n (seq (region (ops_y hH14 rfl rfl (yv_move rfl) (ops_y hH14 rfl rfl (yv_assign rfl) (ops_y hH14 rfl rfl (yv_assign rfl) (ops_nil (thn_n (ret ?_)))))))))
      have hH17 := (hH14.sub (List.Sublist.cons _ (List.Sublist.cons _ (List.Sublist.refl _))))
      refine fin hH17 (fun w' hf => (res2 rfl (show RV _ _ _ (.tmp 2) _ from rfl) (show RV _ _ _ (.tmp 3) _ from rfl))) (fun w' hf => ?_)
      first | exact tup2 (S.no1 hcn) | exact tup2 (S.no2 hc0 (by omega)) | exact tup2 (S.no3 hc0 (by omega))
  · skip
    have hcn : ¬ S.check l 0 = 0 := ‹_›
    refine region (ops_y hH rfl rfl (yv_move rfl) ?_)
    refine op_fnV rfl rfl rfl hH (c72n (h0.now hH (n := 0) rfl) (by omega) hcn) (fun w18 hH19 => ?_)
    refine ops_y hH19 rfl rfl (yv_move rfl) (ops_y hH19 rfl rfl (yv_extract rfl rfl) (ops_y hH19 rfl rfl (yv_extract rfl rfl) (ops_y hH19 rfl rfl (yv_assign rfl) (ops_y hH19 rfl rfl (yv_assign rfl) (ops_nil (thn_n (seq (seq (region ?_)))))))))
    refine ops_y hH19 rfl rfl (yv_move rfl) ?_
    refine ops_y hH19 rfl rfl (yv_neq rfl rfl) ?_
    refine ops_nil (thn_n ?_)
    have hc20 : ¬ ((S.check l 0) = 0) := hcn
    refine cond_t rfl (not_decide_t hc20) ?_
    refine seq (region (ops_y hH19 rfl rfl (yv_move rfl) (ops_y hH19 rfl rfl (yv_assign rfl) (ops_y hH19 rfl rfl (yv_assign rfl) (ops_nil (thn_n (ret (thn_r ?_))))))))
    refine fin hH19 (fun w' hf => (res2 rfl (show RV _ _ _ (.tmp 2) _ from rfl) (show RV _ _ _ (.tmp 3) _ from rfl))) (fun w' hf => ?_)
    first | exact tup2 (S.no1 hcn) | exact tup2 (S.no2 hc0 (by omega)) | exact tup2 (S.no3 hc0 (by omega))

theorem c46 {v : Value} {l : List Int} {a : Int} {w : World} (h0 : Rd encI 1 v l w) (hn : l.length ≤ 1000000)  :
    Fn Try.prog 46 [v, (.int .i64 a)].toArray w (fun u _ => u = .int .i64 (S.checkNone l a)) := by
  refine fn_of' (args := [v, (.int .i64 a)]) Try.func46 rfl (ent Try.func46 (by kernel_rfl) rfl) rfl rfl (fun hH => ?_)
  refine seq (region (ops_y hH rfl rfl (yv_assign rfl) (ops_nil (thn_n (seq ?_)))))
  by_cases hc1 : S.check l 0 = 0
  · skip
    have hc0 : S.check l 0 = 0 := ‹_›
    have hj : S.J l := S.check_iff.1 hc0
    have hl1 := hj.1
    have hl10 := hj.2.1
    refine region (ops_y hH rfl rfl (yv_move rfl) ?_)
    refine op_fn rfl rfl rfl hH (c72 (h0.now hH (n := 0) rfl) (by omega) hj) (fun u4 w2 lo5 hi6 hH3 hv7 => ?_)
    obtain ⟨b8, r9, hu, hb10⟩ := hv7
    subst hu
    obtain ⟨g11, hH12⟩ := Heap.toBench hH3 (n := 0) rfl (fun w' h => by obtain ⟨b1, v1, e, h⟩ := h; cases e; exact ⟨v1, h⟩) hb10 (by omega)
    refine ops_y hH12 rfl rfl (yv_move rfl) (ops_y hH12 rfl rfl (yv_extract rfl rfl) (ops_y hH12 rfl rfl (yv_extract rfl rfl) (ops_y hH12 rfl rfl (yv_assign rfl) (ops_y hH12 rfl rfl (yv_assign rfl) (ops_nil (thn_n (seq (block (seq ?_)))))))))
    refine region (ops_y hH12 rfl rfl (yv_move rfl) ?_)
    refine ops_y hH12 rfl rfl (yv_neq rfl rfl) ?_
    refine ops_y hH12 rfl rfl (yv_assign rfl) (ops_nil (thn_n ?_))
    refine cond_f rfl rfl ?_
    refine seq (region (ops_y hH12 rfl rfl (yv_move rfl) ?_))
    refine ops_y hH12 rfl rfl (yv_len T.sl22 rfl (h0.now hH12 (n := 2) rfl).is) ?_
    refine ops_y hH12 rfl rfl (yv_move rfl) ?_
    refine op_lit (us := [(0, (.int .i64 a))]) T.el22_encI [a] rfl (by decide) rfl (fun a ha => by simp [ha.ev (show ev _ (.tmp 19) = some _ from rfl)]) (fun w => by kernel_rfl) hH12 (fun u13 lo15 hi16 w14 hH17 => ?_)
    refine op_fnV rfl rfl rfl hH17 (c80_1 (Heap.rdw T.el22_encI hH17 (n := 0) rfl)) (fun w18 hH19 => ?_)
    refine ops_y hH19 rfl rfl (yv_not rfl) ?_
    refine ops_y hH19 rfl rfl (yv_assign rfl) (ops_nil (thn_n ?_))
    by_cases hc20 : 1 ≤ a ∧ a ≤ (l.length : Int)
    · skip
      refine cond_f rfl (not_decide_n hc20) ?_
      refine seq ?_
      have hcl := S.counts_length (l := l)
      have hml := S.many_le (p := a.toNat) hj
      have hnc := S.nth_counts (l := l) (p := a.toNat) (by omega)
      rw [Int.toNat_of_nonneg (by omega)] at hnc
      refine region (ops_y hH19 rfl rfl (yv_move rfl) ?_)
      refine ops_y hH19 rfl rfl (yv_rem rfl rfl (by omega) (by omega)) ?_
      refine ops_y hH19 rfl rfl (yv_eql rfl rfl) ?_
      refine ops_y hH19 rfl rfl (yv_move rfl) ?_
      by_cases hc21 : (a % 2) = 1
      · skip
        refine guard_no rfl rfl (decide_eq_true hc21) rfl ?_
        refine guard_no rfl rfl (decide_eq_true hc21) rfl ?_
        refine guard_no rfl rfl (decide_eq_true hc21) rfl ?_
        refine guard_no rfl rfl (decide_eq_true hc21) rfl ?_
        refine guard_no rfl rfl (decide_eq_true hc21) rfl ?_
        refine guard_no rfl rfl (decide_eq_true hc21) rfl ?_
        refine ops_y hH19 rfl rfl (yv_pick_t rfl (decide_eq_true hc21) rfl) ?_
        refine ops_y hH19 rfl rfl (yv_assign rfl) (ops_nil (thn_n ?_))
        refine cond_t rfl rfl ?_
        refine seq (region (ops_y hH19 rfl rfl (yv_assign rfl) (ops_nil (thn_n (ret (blk_r (thn_r ?_)))))))
        have hH22 := (hH19.sub (List.Sublist.cons _ (List.Sublist.cons _ (List.Sublist.cons _ (List.Sublist.refl _)))))
        refine fin hH22 (fun w' hf => (res1 rfl (show RV _ _ _ (.tmp 4) _ from rfl))) (fun w' hf => ?_)
        first | exact congrArg (Value.int .i64) (S.cn1 hcn).symm | exact congrArg (Value.int .i64) (S.cn2 hc0 (by omega)).symm | exact congrArg (Value.int .i64) (S.cn3 hc0 (by omega) (by omega)).symm | exact congrArg (Value.int .i64) (S.cn4 hc0 (by omega) (by omega)).symm
      · skip
        refine guard_yes rfl rfl (decide_eq_false hc21) ?_
        refine ops_y hH19 rfl rfl (yv_move rfl) ?_
        refine guard_yes rfl rfl (decide_eq_false hc21) ?_
        refine op_fnV rfl rfl rfl hH19 (c93 (Heap.bxw hH19 (n := 2) rfl) (Heap.rdw T.el22_encI hH19 (n := 1) rfl) hj) (fun w23 hH24 => ?_)
        refine guard_yes rfl rfl (decide_eq_false hc21) ?_
        refine ops_y hH24 rfl rfl (yv_move rfl) ?_
        refine guard_yes rfl rfl (decide_eq_false hc21) ?_
        refine ops_y hH24 rfl rfl (yv_idxA T.arr100 T.one3 rfl rfl (by omega) (by omega)) ?_
        refine guard_yes rfl rfl (decide_eq_false hc21) ?_
        refine ops_y hH24 rfl rfl (yv_rem rfl rfl (by omega) (by omega)) ?_
        refine guard_yes rfl rfl (decide_eq_false hc21) ?_
        refine ops_y hH24 rfl rfl (yv_eql rfl rfl) ?_
        refine ops_y hH24 rfl rfl (yv_pick_f rfl (decide_eq_false hc21) rfl) ?_
        refine ops_y hH24 rfl rfl (yv_assign rfl) (ops_nil (thn_n ?_))
        by_cases hc25 : ((nth (S.counts l) a) % 2) = 0
        · skip
          refine cond_t rfl (decide_eq_true hc25) ?_
          refine seq (region (ops_y hH24 rfl rfl (yv_assign rfl) (ops_nil (thn_n (ret (blk_r (thn_r ?_)))))))
          have hH26 := (hH24.sub (List.Sublist.cons _ (List.Sublist.cons _ (List.Sublist.cons _ (List.Sublist.refl _)))))
          refine fin hH26 (fun w' hf => (res1 rfl (show RV _ _ _ (.tmp 4) _ from rfl))) (fun w' hf => ?_)
          first | exact congrArg (Value.int .i64) (S.cn1 hcn).symm | exact congrArg (Value.int .i64) (S.cn2 hc0 (by omega)).symm | exact congrArg (Value.int .i64) (S.cn3 hc0 (by omega) (by omega)).symm | exact congrArg (Value.int .i64) (S.cn4 hc0 (by omega) (by omega)).symm
        · skip
          refine cond_f rfl (decide_eq_false hc25) ?_
          refine skip (blk_n (thn_n (seq (region (ops_y hH24 rfl rfl (yv_assign rfl) (ops_nil (thn_n (ret ?_))))))))
          have hH27 := (hH24.sub (List.Sublist.cons _ (List.Sublist.cons _ (List.Sublist.cons _ (List.Sublist.refl _)))))
          refine fin hH27 (fun w' hf => (res1 rfl (show RV _ _ _ (.tmp 4) _ from rfl))) (fun w' hf => ?_)
          first | exact congrArg (Value.int .i64) (S.cn1 hcn).symm | exact congrArg (Value.int .i64) (S.cn2 hc0 (by omega)).symm | exact congrArg (Value.int .i64) (S.cn3 hc0 (by omega) (by omega)).symm | exact congrArg (Value.int .i64) (S.cn4 hc0 (by omega) (by omega)).symm
    · skip
      refine cond_t rfl (not_decide_t hc20) ?_
      refine seq (region (ops_y hH19 rfl rfl (yv_assign rfl) (ops_nil (thn_n (ret (blk_r (thn_r ?_)))))))
      have hH28 := (hH19.sub (List.Sublist.cons _ (List.Sublist.cons _ (List.Sublist.cons _ (List.Sublist.refl _)))))
      refine fin hH28 (fun w' hf => (res1 rfl (show RV _ _ _ (.tmp 4) _ from rfl))) (fun w' hf => ?_)
      first | exact congrArg (Value.int .i64) (S.cn1 hcn).symm | exact congrArg (Value.int .i64) (S.cn2 hc0 (by omega)).symm | exact congrArg (Value.int .i64) (S.cn3 hc0 (by omega) (by omega)).symm | exact congrArg (Value.int .i64) (S.cn4 hc0 (by omega) (by omega)).symm
  · skip
    have hcn : ¬ S.check l 0 = 0 := ‹_›
    refine region (ops_y hH rfl rfl (yv_move rfl) ?_)
    refine op_fnV rfl rfl rfl hH (c72n (h0.now hH (n := 0) rfl) (by omega) hcn) (fun w29 hH30 => ?_)
    refine ops_y hH30 rfl rfl (yv_move rfl) (ops_y hH30 rfl rfl (yv_extract rfl rfl) (ops_y hH30 rfl rfl (yv_extract rfl rfl) (ops_y hH30 rfl rfl (yv_assign rfl) (ops_y hH30 rfl rfl (yv_assign rfl) (ops_nil (thn_n (seq (block (seq ?_)))))))))
    refine region (ops_y hH30 rfl rfl (yv_move rfl) ?_)
    refine ops_y hH30 rfl rfl (yv_neq rfl rfl) ?_
    refine ops_y hH30 rfl rfl (yv_assign rfl) (ops_nil (thn_n ?_))
    have hc31 : ¬ ((S.check l 0) = 0) := hcn
    refine cond_t rfl (not_decide_t hc31) ?_
    refine seq (region (ops_y hH30 rfl rfl (yv_move rfl) (ops_y hH30 rfl rfl (yv_assign rfl) (ops_nil (thn_n (ret (blk_r (thn_r ?_))))))))
    refine fin hH30 (fun w' hf => (res1 rfl (show RV _ _ _ (.tmp 4) _ from rfl))) (fun w' hf => ?_)
    first | exact congrArg (Value.int .i64) (S.cn1 hcn).symm | exact congrArg (Value.int .i64) (S.cn2 hc0 (by omega)).symm | exact congrArg (Value.int .i64) (S.cn3 hc0 (by omega) (by omega)).symm | exact congrArg (Value.int .i64) (S.cn4 hc0 (by omega) (by omega)).symm

theorem S.cntTo {l : List Int} {p : Int} {k : Nat} : (List.range (k + 1)).countP (fun i : Nat => decide ((S.per l (i : Int) : Int) = p)) = (List.range k).countP (fun i : Nat => decide ((S.per l (i : Int) : Int) = p)) + (if (S.per l (k : Int) : Int) = p then 1 else 0) := by
  rw [List.range_succ, List.countP_append]
  simp
theorem S.cntAll {l : List Int} (h : S.J l) {p : Nat} : (List.range l.length).countP (fun i : Nat => decide ((S.per l (i : Int) : Int) = (p : Int))) = p * S.many l p := by
  rw [← h.many p]
  unfold S.right
  rw [List.countP_map]
  refine List.countP_congr fun i _ => ?_
  simp
  omega
theorem S.lenDiv {m p : Nat} (hp : 1 ≤ p) : ((p * m : Nat) : Int) / (p : Int) = (m : Int) := by
  rw [Int.natCast_mul, Int.mul_ediv_cancel_left _ (by omega)]

theorem c65 {v : Value} {l : List Int} {p : Nat} {w : World} (h0 : Rd encI 1 v l w) (hj : S.J l) (hp : 1 ≤ p)  :
    Fn Try.prog 65 [v, (.int .i64 (p : Int))].toArray w (fun u _ => u = .int .i64 (S.many l p : Int)) := by
  refine fn_of' (args := [v, (.int .i64 (p : Int))]) Try.func65 rfl (ent Try.func65 (by kernel_rfl) rfl) rfl rfl (fun hH => ?_)
  have hl10 := hj.2.1
  have hca := S.cntAll hj (p := p)
  have hld := S.lenDiv (m := S.many l p) hp
  have hml := S.many_le (p := p) hj
  refine seq (region (ops_y hH rfl rfl (yv_assign rfl) (ops_nil (thn_n (seq (region (ops_y hH rfl rfl (yv_assign rfl) (ops_nil (thn_n ?_)))))))))
  refine seq (seq (region (ops_y hH rfl rfl (yv_assign rfl) (ops_nil (thn_n (block ?_))))))
  refine loop (S := Nat) (fun k => [(5, (.int .i64 (((List.range k).countP (fun i : Nat => decide ((S.per l (i : Int) : Int) = (p : Int)))) : Int))), (6, (.int .i64 (k : Int))), (0, v), (1, (.int .i64 (p : Int))), (4, (.int .i64 0))]) (fun k w1 => Heap [base w] w1 ∧ k ≤ l.length) (fun k => l.length - k) (0) (Sub.cons rfl (Sub.cons rfl (Sub.cons rfl (Sub.cons rfl (Sub.cons rfl (Sub.nil _)))))) ?_ ?_
  · exact ⟨hH, by omega⟩
  · rintro k w1 ⟨hH2, hk⟩
    show Holds _ _ _ _ _ [(5, (.int .i64 (((List.range k).countP (fun i : Nat => decide ((S.per l (i : Int) : Int) = (p : Int)))) : Int))), (6, (.int .i64 (k : Int))), (0, v), (1, (.int .i64 (p : Int))), (4, (.int .i64 0))] _ _
    have hct := S.cntTo (l := l) (p := (p : Int)) (k := k)
    have hcle : ((List.range k).countP (fun i : Nat => decide ((S.per l (i : Int) : Int) = (p : Int)))) ≤ k := by have h9 := List.countP_le_length (p := fun i : Nat => decide ((S.per l (i : Int) : Int) = (p : Int))) (l := List.range k); simpa using h9
    refine seq (seq (region (ops_y hH2 rfl rfl (yv_move rfl) (ops_y hH2 rfl rfl (yv_move rfl) ?_))))
    refine ops_y hH2 rfl rfl (yv_len T.sl22 rfl (h0.now hH2 (n := 0) rfl).is) ?_
    refine ops_y hH2 rfl rfl (yv_lss rfl rfl) ?_
    refine ops_nil (thn_n ?_)
    by_cases hc3 : (k : Int) < (l.length : Int)
    · skip
      refine cond_t rfl (decide_eq_true hc3) ?_
      refine skip (thn_n (seq (block (seq ?_))))
      have hpl := S.circ_length (l := l) (a := (k : Int))
      refine region (ops_y hH2 rfl rfl (yv_move rfl) (ops_y hH2 rfl rfl (yv_move rfl) ?_))
      refine op_fn rfl rfl rfl hH2 (c95 (h0.now hH2 (n := 0) rfl) hj (by omega) (by omega)) (fun u6 w4 lo7 hi8 hH5 hv9 => ?_)
      have hH10 := Heap.toOw hH5 (n := 0) rfl
      refine ops_y hH10 rfl rfl (yv_len T.sl22 rfl (Heap.rdw T.el22_encI hH10 (n := 0) rfl).is) ?_
      refine ops_y hH10 rfl rfl (yv_move rfl) ?_
      refine ops_y hH10 rfl rfl (yv_eql rfl rfl) ?_
      refine ops_nil (thn_n ?_)
      by_cases hc11 : ((S.circ l (k : Int)).length : Int) = (p : Int)
      · skip
        rw [if_pos (by omega)] at hct
        refine cond_t rfl (decide_eq_true hc11) ?_
        refine region (ops_y hH10 rfl rfl (yv_move rfl) ?_)
        refine ops_y hH10 rfl rfl (yv_add rfl rfl (by omega)) ?_
        refine ops_y hH10 rfl rfl (yv_assign rfl) (ops_nil (blk_n (thn_n (region (ops_y hH10 rfl rfl (yv_move rfl) ?_)))))
        refine ops_y hH10 rfl rfl (yv_add rfl rfl (by omega)) ?_
        refine ops_y hH10 rfl rfl (yv_assign rfl) (ops_nil ?_)
        have hH12 := (hH10.sub (List.Sublist.cons _ (List.Sublist.refl _)))
        refine lp_n (k + 1) (Sub.cons (congrArg (fun z : Int => some (Value.int .i64 z)) (by omega)) (Sub.cons rfl (Sub.cons rfl (Sub.cons rfl (Sub.cons rfl (Sub.nil _)))))) ?_ ?_
        · exact ⟨hH12, by omega⟩
        · first | (dsimp only; omega) | (show _ < _; omega)
      · skip
        rw [if_neg (by omega)] at hct
        refine cond_f rfl (decide_eq_false hc11) ?_
        refine skip (blk_n (thn_n (region (ops_y hH10 rfl rfl (yv_move rfl) ?_))))
        refine ops_y hH10 rfl rfl (yv_add rfl rfl (by omega)) ?_
        refine ops_y hH10 rfl rfl (yv_assign rfl) (ops_nil ?_)
        have hH13 := (hH10.sub (List.Sublist.cons _ (List.Sublist.refl _)))
        refine lp_n (k + 1) (Sub.cons (congrArg (fun z : Int => some (Value.int .i64 z)) (by omega)) (Sub.cons rfl (Sub.cons rfl (Sub.cons rfl (Sub.cons rfl (Sub.nil _)))))) ?_ ?_
        · exact ⟨hH13, by omega⟩
        · first | (dsimp only; omega) | (show _ < _; omega)
    · skip
      have hkl : k = l.length := by omega
      subst hkl
      have hpq : ((((List.range l.length).countP (fun i : Nat => decide ((S.per l (i : Int) : Int) = (p : Int)))) : Nat) : Int) / (p : Int) = (S.many l p : Int) := by rw [hca]; exact hld
      refine cond_f rfl (decide_eq_false hc3) ?_
      refine exit (thn_x (lp_x (blk_here (thn_n (seq (region (ops_y hH2 rfl rfl (yv_move rfl) (ops_y hH2 rfl rfl (yv_move rfl) ?_))))))))
      refine ops_y hH2 rfl rfl (yv_quo rfl rfl (by omega) (by omega) (by omega)) ?_
      refine ops_y hH2 rfl rfl (yv_assign rfl) (ops_nil (thn_n (ret ?_)))
      refine fin hH2 (fun w' hf => (res1 rfl (show RV _ _ _ (.tmp 4) _ from rfl))) (fun w' hf => ?_)
      exact congrArg (Value.int .i64) hpq

theorem c65l {v : Value} {l : List Int} {a : Int} {w : World} (h0 : Rd encI 1 v l w) (hj : S.J l) (hp : 1 ≤ a) : Fn Try.prog 65 [v, (.int .i64 a)].toArray w (fun u _ => u = .int .i64 (S.many l a.toNat : Int)) := by
  have h := c65 (p := a.toNat) h0 hj (by omega)
  rwa [Int.toNat_of_nonneg (by omega)] at h

theorem c47 {v : Value} {l : List Int} {a : Int} {w : World} (h0 : Rd encI 1 v l w) (hn : l.length ≤ 1000000)  :
    Fn Try.prog 47 [v, (.int .i64 a)].toArray w (fun u _ => u = .int .i64 (S.checkNone l a)) := by
  refine fn_of' (args := [v, (.int .i64 a)]) Try.func47 rfl (ent Try.func47 (by kernel_rfl) rfl) rfl rfl (fun hH => ?_)
  refine seq (region (ops_y hH rfl rfl (yv_assign rfl) (ops_nil (thn_n (seq (seq ?_))))))
  by_cases hc1 : S.check l 0 = 0
  · skip
    have hc0 : S.check l 0 = 0 := ‹_›
    have hj : S.J l := S.check_iff.1 hc0
    have hl1 := hj.1
    have hl10 := hj.2.1
    refine region (ops_y hH rfl rfl (yv_move rfl) ?_)
    refine op_fnV rfl rfl rfl hH (c24 (h0.now hH (n := 0) rfl) (by omega)) (fun w2 hH3 => ?_)
    refine ops_y hH3 rfl rfl (yv_neq rfl rfl) ?_
    refine ops_nil (thn_n ?_)
    have hc4 : ¬ (¬ ((S.check l 0) = 0)) := fun h => h hc0
    refine cond_f rfl (not_decide_f hc4) ?_
    refine skip (thn_n (seq (seq (region (ops_y hH3 rfl rfl (yv_move rfl) ?_)))))
    refine ops_y hH3 rfl rfl (yv_lss rfl rfl) ?_
    refine ops_y hH3 rfl rfl (yv_move rfl) ?_
    by_cases hc5 : a < 1
    · skip
      refine guard_no rfl rfl (decide_eq_true hc5) rfl ?_
      refine guard_no rfl rfl (decide_eq_true hc5) rfl ?_
      refine guard_no rfl rfl (decide_eq_true hc5) rfl ?_
      refine guard_no rfl rfl (decide_eq_true hc5) rfl ?_
      refine ops_y hH3 rfl rfl (yv_pick_t rfl (decide_eq_true hc5) rfl) ?_
      refine ops_nil (thn_n ?_)
      refine cond_t rfl rfl ?_
      refine seq (region (ops_y hH3 rfl rfl (yv_assign rfl) (ops_nil (thn_n (ret (thn_r ?_))))))
      refine fin hH3 (fun w' hf => (res1 rfl (show RV _ _ _ (.tmp 4) _ from rfl))) (fun w' hf => ?_)
      first | exact congrArg (Value.int .i64) (S.cn1 hcn).symm | exact congrArg (Value.int .i64) (S.cn2 hc0 (by omega)).symm | exact congrArg (Value.int .i64) (S.cn3 hc0 (by omega) (by omega)).symm | exact congrArg (Value.int .i64) (S.cn4 hc0 (by omega) (by omega)).symm
    · skip
      refine guard_yes rfl rfl (decide_eq_false hc5) ?_
      refine ops_y hH3 rfl rfl (yv_move rfl) ?_
      refine guard_yes rfl rfl (decide_eq_false hc5) ?_
      refine ops_y hH3 rfl rfl (yv_move rfl) ?_
      refine guard_yes rfl rfl (decide_eq_false hc5) ?_
      refine ops_y hH3 rfl rfl (yv_len T.sl22 rfl (h0.now hH3 (n := 0) rfl).is) ?_
      refine guard_yes rfl rfl (decide_eq_false hc5) ?_
      refine ops_y hH3 rfl rfl (yv_gtr rfl rfl) ?_
      refine ops_y hH3 rfl rfl (yv_pick_f rfl (decide_eq_false hc5) rfl) ?_
      refine ops_nil (thn_n ?_)
      by_cases hc6 : (l.length : Int) < a
      · skip
        refine cond_t rfl (decide_eq_true hc6) ?_
        refine seq (region (ops_y hH3 rfl rfl (yv_assign rfl) (ops_nil (thn_n (ret (thn_r ?_))))))
        refine fin hH3 (fun w' hf => (res1 rfl (show RV _ _ _ (.tmp 4) _ from rfl))) (fun w' hf => ?_)
        first | exact congrArg (Value.int .i64) (S.cn1 hcn).symm | exact congrArg (Value.int .i64) (S.cn2 hc0 (by omega)).symm | exact congrArg (Value.int .i64) (S.cn3 hc0 (by omega) (by omega)).symm | exact congrArg (Value.int .i64) (S.cn4 hc0 (by omega) (by omega)).symm
      · skip
        refine cond_f rfl (decide_eq_false hc6) ?_
        refine skip (thn_n (seq (seq ?_)))
        have hml := S.many_le (p := a.toNat) hj
        refine region (ops_y hH3 rfl rfl (yv_move rfl) ?_)
        refine ops_y hH3 rfl rfl (yv_rem rfl rfl (by omega) (by omega)) ?_
        refine ops_y hH3 rfl rfl (yv_eql rfl rfl) ?_
        refine ops_y hH3 rfl rfl (yv_move rfl) ?_
        by_cases hc7 : (a % 2) = 1
        · skip
          refine guard_no rfl rfl (decide_eq_true hc7) rfl ?_
          refine guard_no rfl rfl (decide_eq_true hc7) rfl ?_
          refine guard_no rfl rfl (decide_eq_true hc7) rfl ?_
          refine guard_no rfl rfl (decide_eq_true hc7) rfl ?_
          refine guard_no rfl rfl (decide_eq_true hc7) rfl ?_
          refine ops_y hH3 rfl rfl (yv_pick_t rfl (decide_eq_true hc7) rfl) ?_
          refine ops_nil (thn_n ?_)
          refine cond_t rfl rfl ?_
          refine seq (region (ops_y hH3 rfl rfl (yv_assign rfl) (ops_nil (thn_n (ret (thn_r ?_))))))
          refine fin hH3 (fun w' hf => (res1 rfl (show RV _ _ _ (.tmp 4) _ from rfl))) (fun w' hf => ?_)
          first | exact congrArg (Value.int .i64) (S.cn1 hcn).symm | exact congrArg (Value.int .i64) (S.cn2 hc0 (by omega)).symm | exact congrArg (Value.int .i64) (S.cn3 hc0 (by omega) (by omega)).symm | exact congrArg (Value.int .i64) (S.cn4 hc0 (by omega) (by omega)).symm
        · skip
          refine guard_yes rfl rfl (decide_eq_false hc7) ?_
          refine ops_y hH3 rfl rfl (yv_move rfl) ?_
          refine guard_yes rfl rfl (decide_eq_false hc7) ?_
          refine ops_y hH3 rfl rfl (yv_move rfl) ?_
          refine guard_yes rfl rfl (decide_eq_false hc7) ?_
          refine op_fnV rfl rfl rfl hH3 (c65l (h0.now hH3 (n := 0) rfl) hj (by omega)) (fun w8 hH9 => ?_)
          refine guard_yes rfl rfl (decide_eq_false hc7) ?_
          refine ops_y hH9 rfl rfl (yv_rem rfl rfl (by omega) (by omega)) ?_
          refine guard_yes rfl rfl (decide_eq_false hc7) ?_
          refine ops_y hH9 rfl rfl (yv_eql rfl rfl) ?_
          refine ops_y hH9 rfl rfl (yv_pick_f rfl (decide_eq_false hc7) rfl) ?_
          refine ops_nil (thn_n ?_)
          by_cases hc10 : ((S.many l a.toNat : Int) % 2) = 0
          · skip
            refine cond_t rfl (decide_eq_true hc10) ?_
            refine seq (region (ops_y hH9 rfl rfl (yv_assign rfl) (ops_nil (thn_n (ret (thn_r ?_))))))
            refine fin hH9 (fun w' hf => (res1 rfl (show RV _ _ _ (.tmp 4) _ from rfl))) (fun w' hf => ?_)
            first | exact congrArg (Value.int .i64) (S.cn1 hcn).symm | exact congrArg (Value.int .i64) (S.cn2 hc0 (by omega)).symm | exact congrArg (Value.int .i64) (S.cn3 hc0 (by omega) (by omega)).symm | exact congrArg (Value.int .i64) (S.cn4 hc0 (by omega) (by omega)).symm
          · skip
            refine cond_f rfl (decide_eq_false hc10) ?_
            refine skip (thn_n (seq (region (ops_y hH9 rfl rfl (yv_assign rfl) (ops_nil (thn_n (ret ?_)))))))
            refine fin hH9 (fun w' hf => (res1 rfl (show RV _ _ _ (.tmp 4) _ from rfl))) (fun w' hf => ?_)
            first | exact congrArg (Value.int .i64) (S.cn1 hcn).symm | exact congrArg (Value.int .i64) (S.cn2 hc0 (by omega)).symm | exact congrArg (Value.int .i64) (S.cn3 hc0 (by omega) (by omega)).symm | exact congrArg (Value.int .i64) (S.cn4 hc0 (by omega) (by omega)).symm
  · skip
    have hcn : ¬ S.check l 0 = 0 := ‹_›
    refine region (ops_y hH rfl rfl (yv_move rfl) ?_)
    refine op_fnV rfl rfl rfl hH (c24 (h0.now hH (n := 0) rfl) (by omega)) (fun w11 hH12 => ?_)
    refine ops_y hH12 rfl rfl (yv_neq rfl rfl) ?_
    refine ops_nil (thn_n ?_)
    have hc13 : ¬ ((S.check l 0) = 0) := hcn
    refine cond_t rfl (not_decide_t hc13) ?_
    refine seq (region (ops_y hH12 rfl rfl (yv_move rfl) ?_))
    refine op_fnV rfl rfl rfl hH12 (c24 (h0.now hH12 (n := 0) rfl) (by omega)) (fun w14 hH15 => ?_)
    refine ops_y hH15 rfl rfl (yv_assign rfl) (ops_nil (thn_n (ret (thn_r ?_))))
    refine fin hH15 (fun w' hf => (res1 rfl (show RV _ _ _ (.tmp 4) _ from rfl))) (fun w' hf => ?_)
    first | exact congrArg (Value.int .i64) (S.cn1 hcn).symm | exact congrArg (Value.int .i64) (S.cn2 hc0 (by omega)).symm | exact congrArg (Value.int .i64) (S.cn3 hc0 (by omega) (by omega)).symm | exact congrArg (Value.int .i64) (S.cn4 hc0 (by omega) (by omega)).symm

theorem c45 {v : Value} {l : List Int} {w : World} (h0 : Rd encI 1 v l w) (hn : l.length ≤ 1000000)  :
    Fn Try.prog 45 [v].toArray w (fun u _ => u = .tuple #[.int .i64 (S.noneR l).1, .int .i64 (S.noneR l).2]) := by
  refine fn_of' (args := [v]) Try.func45 rfl (ent Try.func45 (by kernel_rfl) rfl) rfl rfl (fun hH => ?_)
  refine seq (region (ops_y hH rfl rfl (yv_assign rfl) (ops_y hH rfl rfl (yv_assign rfl) (ops_nil (thn_n (seq (seq ?_)))))))
  by_cases hc1 : S.check l 0 = 0
  · skip
    have hc0 : S.check l 0 = 0 := ‹_›
    have hj : S.J l := S.check_iff.1 hc0
    have hl1 := hj.1
    have hl10 := hj.2.1
    refine region (ops_y hH rfl rfl (yv_move rfl) ?_)
    refine op_fnV rfl rfl rfl hH (c24 (h0.now hH (n := 0) rfl) (by omega)) (fun w2 hH3 => ?_)
    refine ops_y hH3 rfl rfl (yv_neq rfl rfl) ?_
    refine ops_nil (thn_n ?_)
    have hc4 : ¬ (¬ ((S.check l 0) = 0)) := fun h => h hc0
    refine cond_f rfl (not_decide_f hc4) ?_
    refine skip (thn_n (seq (seq (region (ops_y hH3 rfl rfl (yv_assign rfl) (ops_nil (thn_n (block ?_))))))))
    refine loop (S := Nat) (fun k => [(4, (.int .i64 (k : Int))), (0, v)]) (fun k w1 => Heap [base w] w1 ∧ 1 ≤ k ∧ k ≤ l.length + 1 ∧ ∀ i, i < k → S.noneP l i = false) (fun k => l.length + 1 - k) (1) (Sub.cons rfl (Sub.cons rfl (Sub.nil _))) ?_ ?_
    · exact ⟨hH3, by omega, by omega, S.none0⟩
    · rintro k w5 ⟨hH6, hk1, hk, hall⟩
      show Holds _ _ _ _ _ [(4, (.int .i64 (k : Int))), (0, v)] _ _
      refine seq (seq (region (ops_y hH6 rfl rfl (yv_move rfl) (ops_y hH6 rfl rfl (yv_move rfl) ?_))))
      refine ops_y hH6 rfl rfl (yv_len T.sl22 rfl (h0.now hH6 (n := 0) rfl).is) ?_
      refine ops_y hH6 rfl rfl (yv_leq rfl rfl) ?_
      refine ops_nil (thn_n ?_)
      by_cases hc7 : (k : Int) ≤ (l.length : Int)
      · skip
        refine cond_t rfl (decide_eq_true hc7) ?_
        refine skip (thn_n (seq (block (seq ?_))))
        have hci := S.cn_iff hc0 (n := k) hk1 (by omega)
        refine region (ops_y hH6 rfl rfl (yv_move rfl) (ops_y hH6 rfl rfl (yv_move rfl) ?_))
        refine op_fnV rfl rfl rfl hH6 (c47 (h0.now hH6 (n := 0) rfl) (by omega)) (fun w8 hH9 => ?_)
        refine ops_y hH9 rfl rfl (yv_eql rfl rfl) ?_
        refine ops_nil (thn_n ?_)
        by_cases hc10 : (S.checkNone l (k : Int)) = 0
        · skip
          have hp : S.noneP l k = true := hci.1 (by omega)
          have hnl := S.noneL_hit (by omega) hp hall
          refine cond_t rfl (decide_eq_true hc10) ?_
          refine seq (region (ops_y hH9 rfl rfl (yv_move rfl) (ops_y hH9 rfl rfl (yv_assign rfl) (ops_y hH9 rfl rfl (yv_assign rfl) (ops_nil (thn_n (ret (blk_r (thn_r ?_)))))))))
          refine lp_r (blk_r (thn_r ?_))
          refine fin hH9 (fun w' hf => (res2 rfl (show RV _ _ _ (.tmp 2) _ from rfl) (show RV _ _ _ (.tmp 3) _ from rfl))) (fun w' hf => ?_)
          first | exact tup2 (S.no1 hcn) | exact tup2 (S.no2 hc0 hnl) | (rw [← hnl]; exact tup2 (S.no3 hc0 (by omega)))
        · skip
          have hp : S.noneP l k = false := Bool.eq_false_iff.2 (fun h => absurd (hci.2 h) (by omega))
          refine cond_f rfl (decide_eq_false hc10) ?_
          refine skip (blk_n (thn_n (region (ops_y hH9 rfl rfl (yv_move rfl) ?_))))
          refine ops_y hH9 rfl rfl (yv_add rfl rfl (by omega)) ?_
          refine ops_y hH9 rfl rfl (yv_assign rfl) (ops_nil ?_)
          refine lp_n (k + 1) (Sub.cons rfl (Sub.cons rfl (Sub.nil _))) ?_ ?_
          · exact ⟨hH9, by omega, by omega, S.all_snoc hall hp⟩
          · first | (dsimp only; omega) | (show _ < _; omega)
      · skip
        refine cond_f rfl (decide_eq_false hc7) ?_
        refine exit (thn_x (lp_x (blk_here (thn_n (seq ?_)))))
        have hnl := hj.none_miss (fun i hi => hall i (by omega))
        refine region (ops_y hH6 rfl rfl (yv_assign rfl) (ops_y hH6 rfl rfl (yv_assign rfl) (ops_nil (thn_n (ret ?_)))))
        refine fin hH6 (fun w' hf => (res2 rfl (show RV _ _ _ (.tmp 2) _ from rfl) (show RV _ _ _ (.tmp 3) _ from rfl))) (fun w' hf => ?_)
        first | exact tup2 (S.no1 hcn) | exact tup2 (S.no2 hc0 hnl) | (rw [← hnl]; exact tup2 (S.no3 hc0 (by omega)))
  · skip
    have hcn : ¬ S.check l 0 = 0 := ‹_›
    refine region (ops_y hH rfl rfl (yv_move rfl) ?_)
    refine op_fnV rfl rfl rfl hH (c24 (h0.now hH (n := 0) rfl) (by omega)) (fun w11 hH12 => ?_)
    refine ops_y hH12 rfl rfl (yv_neq rfl rfl) ?_
    refine ops_nil (thn_n ?_)
    have hc13 : ¬ ((S.check l 0) = 0) := hcn
    refine cond_t rfl (not_decide_t hc13) ?_
    refine seq (region (ops_y hH12 rfl rfl (yv_move rfl) ?_))
    refine op_fnV rfl rfl rfl hH12 (c24 (h0.now hH12 (n := 0) rfl) (by omega)) (fun w14 hH15 => ?_)
    refine ops_y hH15 rfl rfl (yv_assign rfl) (ops_y hH15 rfl rfl (yv_assign rfl) (ops_nil (thn_n (ret (thn_r ?_)))))
    refine fin hH15 (fun w' hf => (res2 rfl (show RV _ _ _ (.tmp 2) _ from rfl) (show RV _ _ _ (.tmp 3) _ from rfl))) (fun w' hf => ?_)
    first | exact tup2 (S.no1 hcn) | exact tup2 (S.no2 hc0 hnl) | (rw [← hnl]; exact tup2 (S.no3 hc0 (by omega)))

end Go.Fip

set_option linter.unusedVariables false
set_option linter.unusedSimpArgs false
set_option linter.unusedSectionVars false
set_option linter.unnecessarySimpa false
namespace Go.Fip
open Go.Proofs Go.RowKit

theorem c36 {v : Value} {l : List Int} {t : Int} {w : World} (h0 : Rd encI 1 v l w) (hn : l.length ≤ 1000000)  :
    Fn Try.prog 36 [v, (.int .i64 t)].toArray w (fun u w => ∃ q, u = .tuple #[q, .int .i64 (S.power l t).2] ∧ Own 3 1 encI q (S.power l t).1 w) := by
  refine fn_of' (args := [v, (.int .i64 t)]) Try.func36 rfl (ent Try.func36 (by kernel_rfl) rfl) rfl rfl (fun hH => ?_)
  refine seq (region ?_)
  refine op_box (us := [(.int .i64 t)]) rfl rfl rfl hH (fun b1 w2 hH3 => ?_)
  refine ops_y hH3 rfl rfl (yv_assign rfl) (ops_y hH3 rfl rfl (yv_assign rfl) (ops_nil (thn_n (seq ?_))))
  by_cases hc4 : S.check l 0 = 0
  · skip
    have hc0 : S.check l 0 = 0 := ‹_›
    have hj : S.J l := S.check_iff.1 hc0
    have hl1 := hj.1
    have hl10 := hj.2.1
    refine region (ops_y hH3 rfl rfl (yv_move rfl) ?_)
    refine op_fn rfl rfl rfl hH3 (c72 (h0.now hH3 (n := 1) rfl) (by omega) hj) (fun u7 w5 lo8 hi9 hH6 hv10 => ?_)
    obtain ⟨b11, r12, hu, hb13⟩ := hv10
    subst hu
    obtain ⟨g14, hH15⟩ := Heap.toBench hH6 (n := 0) rfl (fun w' h => by obtain ⟨b1, v1, e, h⟩ := h; cases e; exact ⟨v1, h⟩) hb13 (by omega)
    refine ops_y hH15 rfl rfl (yv_move rfl) (ops_y hH15 rfl rfl (yv_extract rfl rfl) (ops_y hH15 rfl rfl (yv_extract rfl rfl) (ops_y hH15 rfl rfl (yv_assign rfl) (ops_y hH15 rfl rfl (yv_assign rfl) (ops_nil (thn_n (seq (block (seq ?_)))))))))
    refine region (ops_y hH15 rfl rfl (yv_move rfl) ?_)
    refine ops_y hH15 rfl rfl (yv_neq rfl rfl) ?_
    refine ops_y hH15 rfl rfl (yv_assign rfl) (ops_nil (thn_n ?_))
    refine cond_f rfl rfl ?_
    refine seq (region ?_)
    refine ops_y hH15 rfl rfl (yv_load T.one2 rfl (fun _ hw => Heap.cellw hw (n := 2) rfl rfl)) ?_
    refine ops_y hH15 rfl rfl (yv_lss rfl rfl) ?_
    refine ops_y hH15 rfl rfl (yv_move rfl) ?_
    by_cases hc16 : t < 0
    · skip
      refine guard_no rfl rfl (decide_eq_true hc16) rfl ?_
      refine guard_no rfl rfl (decide_eq_true hc16) rfl ?_
      refine ops_y hH15 rfl rfl (yv_pick_t rfl (decide_eq_true hc16) rfl) ?_
      refine ops_y hH15 rfl rfl (yv_assign rfl) (ops_nil (thn_n ?_))
      refine cond_t rfl rfl ?_
      refine seq (region (ops_y hH15 rfl rfl (yv_assign rfl) (ops_y hH15 rfl rfl (yv_assign rfl) (ops_nil (thn_n (ret (blk_r (thn_r ?_))))))))
      have hH17 := (hH15.sub (List.Sublist.cons _ (List.Sublist.cons _ (List.Sublist.cons _ (List.Sublist.refl _)))))
      refine fin hH17 (fun w' hf => (res2 rfl (show RV _ _ _ (.tmp 4) _ from rfl) (show RV _ _ _ (.tmp 5) _ from rfl))) (fun w' hf => ?_)
      first | (rw [S.po1 hcn]; exact ⟨_, rfl, own_nil⟩) | (rw [S.po2 hc0 (by omega)]; exact ⟨_, rfl, own_nil⟩) | (rw [S.po3 hc0 (by omega), ← S.PowI.done hj hP]; exact ⟨_, rfl, Heap.own hf (n := 0) rfl⟩)
    · skip
      refine guard_yes rfl rfl (decide_eq_false hc16) ?_
      refine ops_y hH15 rfl rfl (yv_load T.one2 rfl (fun _ hw => Heap.cellw hw (n := 2) rfl rfl)) ?_
      refine guard_yes rfl rfl (decide_eq_false hc16) ?_
      refine ops_y hH15 rfl rfl (yv_gtr rfl rfl) ?_
      refine ops_y hH15 rfl rfl (yv_pick_f rfl (decide_eq_false hc16) rfl) ?_
      refine ops_y hH15 rfl rfl (yv_assign rfl) (ops_nil (thn_n ?_))
      by_cases hc18 : 1099511627776 < t
      · skip
        refine cond_t rfl (decide_eq_true hc18) ?_
        refine seq (region (ops_y hH15 rfl rfl (yv_assign rfl) (ops_y hH15 rfl rfl (yv_assign rfl) (ops_nil (thn_n (ret (blk_r (thn_r ?_))))))))
        have hH19 := (hH15.sub (List.Sublist.cons _ (List.Sublist.cons _ (List.Sublist.cons _ (List.Sublist.refl _)))))
        refine fin hH19 (fun w' hf => (res2 rfl (show RV _ _ _ (.tmp 4) _ from rfl) (show RV _ _ _ (.tmp 5) _ from rfl))) (fun w' hf => ?_)
        first | (rw [S.po1 hcn]; exact ⟨_, rfl, own_nil⟩) | (rw [S.po2 hc0 (by omega)]; exact ⟨_, rfl, own_nil⟩) | (rw [S.po3 hc0 (by omega), ← S.PowI.done hj hP]; exact ⟨_, rfl, Heap.own hf (n := 0) rfl⟩)
      · skip
        refine cond_f rfl (decide_eq_false hc18) ?_
        refine skip (blk_n (thn_n (seq (region (ops_y hH15 rfl rfl (yv_move rfl) ?_)))))
        refine ops_y hH15 rfl rfl (yv_nilck rfl) ?_
        refine ops_y hH15 rfl rfl (yv_field T.f89_0 rfl) ?_
        refine ops_y hH15 rfl rfl (yv_loadA (cs := [r12]) T.agg87 rfl rfl (fun _ hw => Heap.cellsw hw (n := 1) rfl (k := 0) rfl)) ?_
        refine op_fn rfl rfl rfl hH15 (c86 (Heap.rdw T.el22_encI hH15 (n := 0) rfl) (by omega) (by omega)) (fun u22 w20 lo23 hi24 hH21 hv25 => ?_)
        have hH26 := Heap.toOw hH21 (n := 0) rfl
        refine op_alloc (z := (.slice none 0 0)) (us := [(.slice none 0 0)]) (fun _ => by kernel_rfl) rfl rfl hH26 (fun b27 w28 hH29 => ?_)
        refine op_store (n := 0) (j := 0) (us := [u22]) rfl rfl hH29 rfl T.sz22 (SliceIs.cells (Heap.rdw T.el22_encI hH29 (n := 1) rfl).is) rfl rfl (SliceIs.one (Heap.rdw T.el22_encI hH29 (n := 1) rfl).is) (fun w30 hH31 => ?_)
        refine ops_nil (thn_n (seq (seq (region (ops_y hH31 rfl rfl (yv_move rfl) ?_)))))
        refine op_fn rfl rfl rfl hH31 (c74) (fun u34 w32 lo35 hi36 hH33 hv37 => ?_)
        obtain ⟨cb38, hu, -⟩ := hv37
        subst hu
        have hH39 := Heap.cap1 hH33 (n := 0) rfl
        refine ops_nil (thn_n (block ?_))
        refine rangeFuncF (n := (S.cyc l)) rfl (it104 (b1 := cb38) (b := b11) (v := r12) hj) rfl hH39 (fun i H => ∃ o : List Int, ∃ v_a : Value, ∃ lo_a : Nat, ∃ hi_a : Nat, H = [⟨lo35, hi36, Bx cb38 73 [(.pointer (some ⟨b11, 0, none⟩))]⟩, bx b27 22 [v_a], ow lo_a hi_a 3 1 encI v_a o, ow g14 (g14 + 1) 3 1 encI r12 l, bx b11 89 [r12], bx b1 2 [(.int .i64 t)], base w] ∧ S.PowI l t.toNat i o) (fun c H => False) ⟨(S.right l.length), u22, lo23, hi24, rfl, S.PowI.start⟩ (fun i H w hI hw => ?_) (fun l40 D41 i42 x43 lo47 hi48 H w45 rc hx44 hI hH46 => ?_) (fun D41 H w45 hI hH46 => ?_) (fun D41 c H w45 hI hH46 => ?_)
        · skip
          obtain ⟨_, _, _, _, rfl, _⟩ := hI
          exact ⟨hw.get (n := 0) rfl, Heap.bxw hw (n := 4) rfl, (Heap.rdw T.el22_encI hw (n := 3) rfl)⟩
        · skip
          obtain ⟨o, v_a, lo_a, hi_a, rfl, hP⟩ := hI
          have hH49 := Heap.toOw hH46 (n := 2) rfl
          refine region (ops_y hH49 rfl rfl (yv_assign rfl) (ops_nil ?_))
          refine ⟨_, hH49, fun w50 hH51 => ?_⟩
          refine block (seq ?_)
          have hcl := S.circ_length (l := l) (a := (((S.mins l).getD i42 0 : Nat) : Int))
          have hmi := S.J.mn hj (i := i42) (by omega)
          have hpp := S.per_pos (l := l) (a := (((S.mins l).getD i42 0 : Nat) : Int))
          have hpl := (hj.per_at (a := (((S.mins l).getD i42 0 : Nat) : Int)) (by exact hmi.1) (by exact hmi.2)).2
          refine region (ops_y hH51 rfl rfl (yv_move rfl) ?_)
          refine ops_y hH51 rfl rfl (yv_len T.sl22 rfl (Heap.rdw T.el22_encI hH51 (n := 2) rfl).is) ?_
          refine ops_y hH51 rfl rfl (yv_move rfl) (ops_nil (thn_n (block ?_)))
          refine loop (S := Nat × List Int × Value × Nat × Nat) (fun (k, o2, v_b8, lo_b8, hi_b8) => [(38, (.int .i64 (k : Int))), (3, (.pointer (some ⟨b1, 0, none⟩))), (4, (.slice none 0 0)), (5, (.int .i64 0)), (8, (.pointer (some ⟨b27, 0, none⟩))), (9, x43), (36, x43), (37, (.int .i64 ((S.circ l (((S.mins l).getD i42 0 : Nat) : Int)).length : Int)))]) (fun (k, o2, v_b8, lo_b8, hi_b8) w1 => Heap [recItem l40 { rc with state := .busy }, markItem D41, ow lo47 hi48 3 1 encI x43 (S.circ l (((S.mins l).getD i42 0 : Nat) : Int)), ⟨lo35, hi36, Bx cb38 73 [(.pointer (some ⟨b11, 0, none⟩))]⟩, bx b27 22 [v_b8], ow lo_b8 hi_b8 3 1 encI v_b8 o2, ow g14 (g14 + 1) 3 1 encI r12 l, bx b11 89 [r12], bx b1 2 [(.int .i64 t)], base w] w1 ∧ k ≤ S.per l (((S.mins l).getD i42 0 : Nat) : Int) ∧ S.PowJ l t.toNat i42 k o2) (fun (k, o2, v_b8, lo_b8, hi_b8) => S.per l (((S.mins l).getD i42 0 : Nat) : Int) - k) (0, o, v_a, lo_a, hi_a) (Sub.cons rfl (Sub.cons rfl (Sub.cons rfl (Sub.cons rfl (Sub.cons rfl (Sub.cons rfl (Sub.cons rfl (Sub.cons rfl (Sub.nil _))))))))) ?_ ?_
          · exact ⟨hH51, Nat.zero_le _, hP.go⟩
          · rintro ⟨k, o2, v_b8, lo_b8, hi_b8⟩ w52 ⟨hH53, hk, hQ⟩
            show Holds _ _ _ _ _ [(38, (.int .i64 (k : Int))), (3, (.pointer (some ⟨b1, 0, none⟩))), (4, (.slice none 0 0)), (5, (.int .i64 0)), (8, (.pointer (some ⟨b27, 0, none⟩))), (9, x43), (36, x43), (37, (.int .i64 ((S.circ l (((S.mins l).getD i42 0 : Nat) : Int)).length : Int)))] _ _
            refine seq (region ?_)
            refine ops_y hH53 rfl rfl (yv_lss rfl rfl) ?_
            refine ops_nil (thn_n (seq ?_))
            by_cases hc54 : (k : Int) < ((S.circ l (((S.mins l).getD i42 0 : Nat) : Int)).length : Int)
            · skip
              refine cond_t rfl (decide_eq_true hc54) ?_
              refine skip (thn_n (seq (block (seq (region (ops_y hH53 rfl rfl (yv_move rfl) ?_))))))
              refine ops_y hH53 rfl rfl (yv_index T.sl22 rfl rfl (Heap.rdw T.el22_encI hH53 (n := 2) rfl).is (by omega)) ?_
              refine ops_y hH53 rfl rfl (yv_load T.one3 rfl (fun _ hw => Rd.at (Heap.rdw T.el22_encI hw (n := 2) rfl) (i := (k : Int)) (by omega) (j := 0) rfl)) ?_
              refine ops_y hH53 rfl rfl (yv_assign rfl) (ops_y hH53 rfl rfl (yv_assign rfl) (ops_nil (thn_n ?_)))
              have hkm : k < S.per l (S.mn l i42) := (show k < S.per l (((S.mins l).getD i42 0 : Nat) : Int) by omega)
              have hfq := S.J.further hj (i := i42) (by omega) (k := k) hkm (n := t) (by omega)
              have hci : 0 ≤ (nth (S.circ l (((S.mins l).getD i42 0 : Nat) : Int)) (k : Int)) ∧ (nth (S.circ l (((S.mins l).getD i42 0 : Nat) : Int)) (k : Int)) < (l.length : Int) := S.J.circ_in hj (i := i42) (by omega) (k := k) hkm
              have hol := hQ.1.1
              have hmd := Int.emod_lt_of_pos ((k : Int) + t) (b := ((S.circ l (((S.mins l).getD i42 0 : Nat) : Int)).length : Int)) (by omega)
              have hmd0 := Int.emod_nonneg ((k : Int) + t) (b := ((S.circ l (((S.mins l).getD i42 0 : Nat) : Int)).length : Int)) (by omega)
              have hQn : S.PowJ l t.toNat i42 (k + 1) (o2.set ((nth (S.circ l (((S.mins l).getD i42 0 : Nat) : Int)) (k : Int))).toNat (nth (S.circ l (((S.mins l).getD i42 0 : Nat) : Int)) (((k : Int) + t) % ((S.circ l (((S.mins l).getD i42 0 : Nat) : Int)).length : Int)))) := by rw [show (nth (S.circ l (((S.mins l).getD i42 0 : Nat) : Int)) (((k : Int) + t) % ((S.circ l (((S.mins l).getD i42 0 : Nat) : Int)).length : Int))) = S.it l t.toNat (nth (S.circ l (((S.mins l).getD i42 0 : Nat) : Int)) (k : Int)) from hfq]; exact S.PowJ.step hj (by omega) hkm hQ
              refine region_drawY (fun w' => Heap [recItem l40 { rc with state := .busy }, markItem D41, ow lo47 hi48 3 1 encI x43 (S.circ l (((S.mins l).getD i42 0 : Nat) : Int)), ⟨lo35, hi36, Bx cb38 73 [(.pointer (some ⟨b11, 0, none⟩))]⟩, bx b27 22 [v_b8], ow lo_b8 hi_b8 3 1 encI v_b8 o2, ow g14 (g14 + 1) 3 1 encI r12 l, bx b11 89 [r12], bx b1 2 [(.int .i64 t)], base w] w') [12] T.mixed (fun w55 hr56 => ?_)
              have hH57 := hH53.redrawn hr56
              refine any_takesT [1, 2, 3, 6, 7] (by kernel_rfl)  _ _ _ (by kernel_rfl) ?_
              refine qs_y rfl rfl (yv_move rfl) (qs_y rfl rfl (yv_move rfl) (qs_y rfl rfl (yv_move rfl) (qs_y rfl rfl (yv_move rfl) ?_)))
              refine qs_y rfl rfl (yv_len T.sl22 rfl (Heap.rdw T.el22_encI hH57 (n := 2) rfl).is) ?_
              refine qs_nil ?_
              refine any_takesY [0, 4] (by kernel_rfl) hH57 _ _ _ (by kernel_rfl) ?_
              refine qs_y rfl rfl (yv_load T.one22 rfl (fun _ hw => Heap.cellw hw (n := 4) rfl rfl)) ?_
              refine qs_y rfl rfl (yv_load T.one2 rfl (fun _ hw => Heap.cellw hw (n := 8) rfl rfl)) ?_
              refine qs_nil ?_
              refine any_takesT [5, 8, 9] (by kernel_rfl)  _ _ _ (by kernel_rfl) ?_
              refine qs_y rfl rfl (yv_add rfl rfl (by omega)) ?_
              refine qs_y rfl rfl (yv_rem rfl rfl (by omega) (by omega)) ?_
              refine qs_y rfl rfl (yv_index T.sl22 rfl rfl (Heap.rdw T.el22_encI hH57 (n := 2) rfl).is (by omega)) ?_
              refine qs_nil ?_
              refine any_takesY [10] (by kernel_rfl) hH57 _ _ _ (by kernel_rfl) ?_
              refine qs_y rfl rfl (yv_load T.one3 rfl (fun _ hw => Rd.at (Heap.rdw T.el22_encI hw (n := 2) rfl) (i := ((k : Int) + t) % ((S.circ l (((S.mins l).getD i42 0 : Nat) : Int)).length : Int)) (by omega) (j := 0) rfl)) ?_
              refine qs_nil ?_
              refine any_takesT [11] (by kernel_rfl)  _ _ _ (by kernel_rfl) ?_
              refine qs_y rfl rfl (yv_index T.sl22 rfl rfl (Heap.rdw T.el22_encI hH57 (n := 5) rfl).is (by omega)) ?_
              refine qs_nil ?_
              refine any_allY [12] (by kernel_rfl) rfl ?_
              refine ⟨⟨_, rfl, ?_⟩, trivial⟩
              · skip
                refine op_setE (n := 5) (i := nth (S.circ l (((S.mins l).getD i42 0 : Nat) : Int)) (k : Int)) (k := 0) (us := [(.int .i64 (nth (S.circ l (((S.mins l).getD i42 0 : Nat) : Int)) (((k : Int) + t) % ((S.circ l (((S.mins l).getD i42 0 : Nat) : Int)).length : Int))))]) (z := nth (S.circ l (((S.mins l).getD i42 0 : Nat) : Int)) (((k : Int) + t) % ((S.circ l (((S.mins l).getD i42 0 : Nat) : Int)).length : Int))) T.el22_encI rfl rfl hH57 rfl (by omega) T.sz3 rfl rfl rfl (Nat.le_of_ble_eq_true rfl) (fun w58 hH59 => ?_)
                refine ops_nil ?_
                refine ⟨(fun h => by cases h), ?_⟩
                refine any_doneY (by kernel_rfl) ?_
                refine blk_n (thn_n (region ?_))
                refine ops_y hH59 rfl rfl (yv_add rfl rfl (by omega)) ?_
                refine ops_y hH59 rfl rfl (yv_move rfl) (ops_nil ?_)
                refine lp_n (k + 1, (o2.set (nth (S.circ l (((S.mins l).getD i42 0 : Nat) : Int)) (k : Int)).toNat (nth (S.circ l (((S.mins l).getD i42 0 : Nat) : Int)) (((k : Int) + t) % ((S.circ l (((S.mins l).getD i42 0 : Nat) : Int)).length : Int)))), v_b8, lo_b8, hi_b8) (Sub.cons rfl (Sub.cons rfl (Sub.cons rfl (Sub.cons rfl (Sub.cons rfl (Sub.cons rfl (Sub.cons rfl (Sub.cons rfl (Sub.nil _))))))))) ?_ ?_
                · exact ⟨(Heap.recast (n := 5) hH59 rfl (rfl)), by omega, hQn⟩
                · first | (dsimp only; omega) | (show _ < _; omega)
            · skip
              have hkp : k = S.per l (((S.mins l).getD i42 0 : Nat) : Int) := by omega
              refine cond_f rfl (decide_eq_false hc54) ?_
              refine exit (thn_x (lp_x (blk_here (blk_n ?_))))
              have hH60 := (hH53.sub (List.Sublist.cons_cons _ (List.Sublist.cons_cons _ (List.Sublist.cons _ (List.Sublist.refl _)))))
              exact ⟨_, ⟨_, ⟨o2, v_b8, lo_b8, hi_b8, rfl, S.PowJ.done hj (by omega) (by rw [show S.per l (S.mn l i42) = k from hkp.symm]; exact hQ)⟩, rfl⟩, (Heap.recast (n := 4) hH60 rfl (rfl))⟩
        · skip
          obtain ⟨o, v_a, lo_a, hi_a, rfl, hP⟩ := hI
          have hH61 := hH46.perm (List.perm_append_comm (l₁ := [_]))
          refine blk_n (thn_n (seq (region ?_)))
          refine ops_y hH61 rfl rfl (yv_load T.one22 rfl (fun _ hw => Heap.cellw hw (n := 1) rfl rfl)) ?_
          refine ops_y hH61 rfl rfl (yv_assign rfl) (ops_y hH61 rfl rfl (yv_assign rfl) (ops_nil (thn_n (ret ?_))))
          have hH62 := (hH61.sub (List.Sublist.cons _ (List.Sublist.cons _ (List.Sublist.cons_cons _ (List.Sublist.cons _ (List.Sublist.cons _ (List.Sublist.cons _ (List.Sublist.refl _))))))))
          refine fin_m (H := [ow lo_a hi_a 3 1 encI v_a o]) [D41] (hH62.front (n := 1) rfl) (fun w' hf => (res2 rfl (show RV _ _ _ (.tmp 4) _ from rfl) (show RV _ _ _ (.tmp 5) _ from rfl))) (fun w' hf => ?_)
          first | (rw [S.po1 hcn]; exact ⟨_, rfl, own_nil⟩) | (rw [S.po2 hc0 (by omega)]; exact ⟨_, rfl, own_nil⟩) | (rw [S.po3 hc0 (by omega), ← S.PowI.done hj hP]; exact ⟨_, rfl, Heap.own hf (n := 0) rfl⟩)
        · skip
          exact hI.elim
  · skip
    have hcn : ¬ S.check l 0 = 0 := ‹_›
    refine region (ops_y hH3 rfl rfl (yv_move rfl) ?_)
    refine op_fnV rfl rfl rfl hH3 (c72n (h0.now hH3 (n := 1) rfl) (by omega) hcn) (fun w63 hH64 => ?_)
    refine ops_y hH64 rfl rfl (yv_move rfl) (ops_y hH64 rfl rfl (yv_extract rfl rfl) (ops_y hH64 rfl rfl (yv_extract rfl rfl) (ops_y hH64 rfl rfl (yv_assign rfl) (ops_y hH64 rfl rfl (yv_assign rfl) (ops_nil (thn_n (seq (block (seq ?_)))))))))
    refine region (ops_y hH64 rfl rfl (yv_move rfl) ?_)
    refine ops_y hH64 rfl rfl (yv_neq rfl rfl) ?_
    refine ops_y hH64 rfl rfl (yv_assign rfl) (ops_nil (thn_n ?_))
    have hc65 : ¬ ((S.check l 0) = 0) := hcn
    refine cond_t rfl (not_decide_t hc65) ?_
    refine seq (region (ops_y hH64 rfl rfl (yv_move rfl) (ops_y hH64 rfl rfl (yv_assign rfl) (ops_y hH64 rfl rfl (yv_assign rfl) (ops_nil (thn_n (ret (blk_r (thn_r ?_)))))))))
    have hH66 := (hH64.sub (List.Sublist.cons _ (List.Sublist.refl _)))
    refine fin hH66 (fun w' hf => (res2 rfl (show RV _ _ _ (.tmp 4) _ from rfl) (show RV _ _ _ (.tmp 5) _ from rfl))) (fun w' hf => ?_)
    first | (rw [S.po1 hcn]; exact ⟨_, rfl, own_nil⟩) | (rw [S.po2 hc0 (by omega)]; exact ⟨_, rfl, own_nil⟩) | (rw [S.po3 hc0 (by omega), ← S.PowI.done hj hP]; exact ⟨_, rfl, Heap.own hf (n := 0) rfl⟩)

end Go.Fip

set_option linter.unusedVariables false
set_option linter.unusedSimpArgs false
set_option linter.unusedSectionVars false
set_option linter.unnecessarySimpa false
namespace Go.Fip
open Go.Proofs Go.RowKit

theorem c91 {v u : Value} {l m : List Int} {w : World} (h0 : Rd encI 1 v l w) (h1 : Rd encI 1 u m w) (hn : l.length ≤ 1000000) (hn2 : m.length ≤ 1000000) (hj : S.J l) (hj2 : S.J m) (hlm : l.length = m.length)  :
    Fn Try.prog 91 [v, u].toArray w (fun u w => ∃ b b' v v', u = .tuple #[.pointer (some ⟨b, 0, none⟩), .pointer (some ⟨b', 0, none⟩), .int .i64 0] ∧ TwoAt 89 b b' v v' l m w) := by
  refine fn_of' (args := [v, u]) Try.func91 rfl (ent Try.func91 (by kernel_rfl) rfl) rfl rfl (fun hH => ?_)
  have hl1 := hj.1
  have hm1 := hj2.1
  refine seq (region (ops_y hH rfl rfl (yv_assign rfl) (ops_y hH rfl rfl (yv_assign rfl) (ops_y hH rfl rfl (yv_assign rfl) (ops_nil (thn_n (seq (region (ops_y hH rfl rfl (yv_move rfl) ?_)))))))))
  refine op_fn rfl rfl rfl hH (c72 (h0.now hH (n := 0) rfl) (by omega) hj) (fun u3 w1 lo4 hi5 hH2 hv6 => ?_)
  obtain ⟨b7, r8, hu, hb9⟩ := hv6
  subst hu
  obtain ⟨g10, hH11⟩ := Heap.toBench hH2 (n := 0) rfl (fun w' h => by obtain ⟨b1, v1, e, h⟩ := h; cases e; exact ⟨v1, h⟩) hb9 (by omega)
  refine ops_y hH11 rfl rfl (yv_move rfl) (ops_y hH11 rfl rfl (yv_extract rfl rfl) (ops_y hH11 rfl rfl (yv_extract rfl rfl) (ops_y hH11 rfl rfl (yv_assign rfl) (ops_y hH11 rfl rfl (yv_assign rfl) (ops_nil (thn_n (seq (seq (region ?_)))))))))
  refine ops_y hH11 rfl rfl (yv_move rfl) ?_
  refine ops_y hH11 rfl rfl (yv_neq rfl rfl) ?_
  refine ops_nil (thn_n ?_)
  refine cond_f rfl rfl ?_
  refine skip (thn_n (seq (region (ops_y hH11 rfl rfl (yv_move rfl) ?_))))
  refine op_fn rfl rfl rfl hH11 (c72 (h1.now hH11 (n := 2) rfl) (by omega) hj2) (fun u14 w12 lo15 hi16 hH13 hv17 => ?_)
  obtain ⟨b18, r19, hu, hb20⟩ := hv17
  subst hu
  obtain ⟨g21, hH22⟩ := Heap.toBench hH13 (n := 0) rfl (fun w' h => by obtain ⟨b1, v1, e, h⟩ := h; cases e; exact ⟨v1, h⟩) hb20 (by omega)
  refine ops_y hH22 rfl rfl (yv_move rfl) (ops_y hH22 rfl rfl (yv_extract rfl rfl) (ops_y hH22 rfl rfl (yv_extract rfl rfl) (ops_y hH22 rfl rfl (yv_assign rfl) (ops_y hH22 rfl rfl (yv_assign rfl) (ops_nil (thn_n (seq (seq (region ?_)))))))))
  refine ops_y hH22 rfl rfl (yv_move rfl) ?_
  refine ops_y hH22 rfl rfl (yv_neq rfl rfl) ?_
  refine ops_nil (thn_n ?_)
  refine cond_f rfl rfl ?_
  refine skip (thn_n (seq (seq (region (ops_y hH22 rfl rfl (yv_move rfl) ?_)))))
  refine ops_y hH22 rfl rfl (yv_len T.sl22 rfl (h0.now hH22 (n := 4) rfl).is) ?_
  refine ops_y hH22 rfl rfl (yv_move rfl) ?_
  refine ops_y hH22 rfl rfl (yv_len T.sl22 rfl (h1.now hH22 (n := 4) rfl).is) ?_
  refine ops_y hH22 rfl rfl (yv_neq rfl rfl) ?_
  refine ops_nil (thn_n ?_)
  have hc23 : ¬ (¬ ((l.length : Int) = (m.length : Int))) := by omega
  refine cond_f rfl (not_decide_f hc23) ?_
  refine skip (thn_n (seq (region (ops_y hH22 rfl rfl (yv_move rfl) (ops_y hH22 rfl rfl (yv_move rfl) (ops_y hH22 rfl rfl (yv_assign rfl) (ops_y hH22 rfl rfl (yv_assign rfl) (ops_y hH22 rfl rfl (yv_assign rfl) (ops_nil ?_)))))))))
  refine thn_n (ret ?_)
  refine fin (hH22.front (n := 4) rfl) (fun w' hf => (res3 rfl (show RV _ _ _ (.tmp 4) _ from rfl) (show RV _ _ _ (.tmp 5) _ from rfl) (show RV _ _ _ (.tmp 6) _ from rfl))) (fun w' hf => ?_)
  exact ⟨_, _, _, _, rfl, Heap.bxw hf (n := 3) rfl, Heap.rdw T.el22_encI hf (n := 2) rfl, Heap.bxw hf (n := 1) rfl, Heap.rdw T.el22_encI hf (n := 0) rfl⟩

theorem c91n {v u : Value} {l m : List Int} {w : World} (h0 : Rd encI 1 v l w) (h1 : Rd encI 1 u m w) (hn : l.length ≤ 1000000) (hn2 : m.length ≤ 1000000) (ht : ¬ S.two l m = 0)  :
    Fn Try.prog 91 [v, u].toArray w (fun u _ => u = .tuple #[.pointer none, .pointer none, .int .i64 (S.two l m)]) := by
  refine fn_of' (args := [v, u]) Try.func91 rfl (ent Try.func91 (by kernel_rfl) rfl) rfl rfl (fun hH => ?_)
  refine seq (region (ops_y hH rfl rfl (yv_assign rfl) (ops_y hH rfl rfl (yv_assign rfl) (ops_y hH rfl rfl (yv_assign rfl) (ops_nil (thn_n (seq ?_)))))))
  by_cases hc1 : S.check l 0 = 0
  · skip
    have hc0 : S.check l 0 = 0 := ‹_›
    have hj : S.J l := S.check_iff.1 hc0
    have hl1 := hj.1
    have hl10 := hj.2.1
    refine region (ops_y hH rfl rfl (yv_move rfl) ?_)
    refine op_fn rfl rfl rfl hH (c72 (h0.now hH (n := 0) rfl) (by omega) hj) (fun u4 w2 lo5 hi6 hH3 hv7 => ?_)
    obtain ⟨b8, r9, hu, hb10⟩ := hv7
    subst hu
    obtain ⟨g11, hH12⟩ := Heap.toBench hH3 (n := 0) rfl (fun w' h => by obtain ⟨b1, v1, e, h⟩ := h; cases e; exact ⟨v1, h⟩) hb10 (by omega)
    refine ops_y hH12 rfl rfl (yv_move rfl) (ops_y hH12 rfl rfl (yv_extract rfl rfl) (ops_y hH12 rfl rfl (yv_extract rfl rfl) (ops_y hH12 rfl rfl (yv_assign rfl) (ops_y hH12 rfl rfl (yv_assign rfl) (ops_nil (thn_n (seq (seq (region ?_)))))))))
    refine ops_y hH12 rfl rfl (yv_move rfl) ?_
    refine ops_y hH12 rfl rfl (yv_neq rfl rfl) ?_
    refine ops_nil (thn_n ?_)
    refine cond_f rfl rfl ?_
    refine skip (thn_n (seq ?_))
    by_cases hc13 : S.check m 0 = 0
    · skip
      have hd0 : S.check m 0 = 0 := ‹_›
      have hj2 : S.J m := S.check_iff.1 hd0
      have hm1 := hj2.1
      refine region (ops_y hH12 rfl rfl (yv_move rfl) ?_)
      refine op_fn rfl rfl rfl hH12 (c72 (h1.now hH12 (n := 2) rfl) (by omega) hj2) (fun u16 w14 lo17 hi18 hH15 hv19 => ?_)
      obtain ⟨b20, r21, hu, hb22⟩ := hv19
      subst hu
      obtain ⟨g23, hH24⟩ := Heap.toBench hH15 (n := 0) rfl (fun w' h => by obtain ⟨b1, v1, e, h⟩ := h; cases e; exact ⟨v1, h⟩) hb22 (by omega)
      refine ops_y hH24 rfl rfl (yv_move rfl) (ops_y hH24 rfl rfl (yv_extract rfl rfl) (ops_y hH24 rfl rfl (yv_extract rfl rfl) (ops_y hH24 rfl rfl (yv_assign rfl) (ops_y hH24 rfl rfl (yv_assign rfl) (ops_nil (thn_n (seq (seq (region ?_)))))))))
      refine ops_y hH24 rfl rfl (yv_move rfl) ?_
      refine ops_y hH24 rfl rfl (yv_neq rfl rfl) ?_
      refine ops_nil (thn_n ?_)
      refine cond_f rfl rfl ?_
      refine skip (thn_n (seq (seq (region (ops_y hH24 rfl rfl (yv_move rfl) ?_)))))
      refine ops_y hH24 rfl rfl (yv_len T.sl22 rfl (h0.now hH24 (n := 4) rfl).is) ?_
      refine ops_y hH24 rfl rfl (yv_move rfl) ?_
      refine ops_y hH24 rfl rfl (yv_len T.sl22 rfl (h1.now hH24 (n := 4) rfl).is) ?_
      refine ops_y hH24 rfl rfl (yv_neq rfl rfl) ?_
      refine ops_nil (thn_n ?_)
      have hc25 : ¬ ((l.length : Int) = (m.length : Int)) := fun e => ht (S.two_iff.2 ⟨hc0, hd0, by omega⟩)
      refine cond_t rfl (not_decide_t hc25) ?_
      refine seq (region (ops_y hH24 rfl rfl (yv_assign rfl) (ops_y hH24 rfl rfl (yv_assign rfl) (ops_y hH24 rfl rfl (yv_assign rfl) (ops_nil (thn_n (ret (thn_r ?_))))))))
      have hH26 := (hH24.sub (List.Sublist.cons _ (List.Sublist.cons _ (List.Sublist.cons _ (List.Sublist.cons _ (List.Sublist.refl _))))))
      refine fin hH26 (fun w' hf => (res3 rfl (show RV _ _ _ (.tmp 4) _ from rfl) (show RV _ _ _ (.tmp 5) _ from rfl) (show RV _ _ _ (.tmp 6) _ from rfl))) (fun w' hf => ?_)
      first | exact congrArg (fun z => Value.tuple #[.pointer none, .pointer none, .int .i64 z]) (S.tw1 hcn).symm | exact congrArg (fun z => Value.tuple #[.pointer none, .pointer none, .int .i64 z]) (S.tw2 hc0 hcn2).symm | exact congrArg (fun z => Value.tuple #[.pointer none, .pointer none, .int .i64 z]) (S.tw3 hc0 hd0 (fun e => ht (S.two_iff.2 ⟨hc0, hd0, e⟩))).symm
    · skip
      have hcn2 : ¬ S.check m 0 = 0 := ‹_›
      refine region (ops_y hH12 rfl rfl (yv_move rfl) ?_)
      refine op_fnV rfl rfl rfl hH12 (c72n (h1.now hH12 (n := 2) rfl) (by omega) hcn2) (fun w27 hH28 => ?_)
      refine ops_y hH28 rfl rfl (yv_move rfl) (ops_y hH28 rfl rfl (yv_extract rfl rfl) (ops_y hH28 rfl rfl (yv_extract rfl rfl) (ops_y hH28 rfl rfl (yv_assign rfl) (ops_y hH28 rfl rfl (yv_assign rfl) (ops_nil (thn_n (seq (seq (region ?_)))))))))
      refine ops_y hH28 rfl rfl (yv_move rfl) ?_
      refine ops_y hH28 rfl rfl (yv_neq rfl rfl) ?_
      refine ops_nil (thn_n ?_)
      have hc29 : ¬ ((S.check m 0) = 0) := hcn2
      refine cond_t rfl (not_decide_t hc29) ?_
      refine seq (region (ops_y hH28 rfl rfl (yv_move rfl) (ops_y hH28 rfl rfl (yv_assign rfl) (ops_y hH28 rfl rfl (yv_assign rfl) (ops_y hH28 rfl rfl (yv_assign rfl) (ops_nil (thn_n (ret (thn_r ?_)))))))))
      have hH30 := (hH28.sub (List.Sublist.cons _ (List.Sublist.cons _ (List.Sublist.refl _))))
      refine fin hH30 (fun w' hf => (res3 rfl (show RV _ _ _ (.tmp 4) _ from rfl) (show RV _ _ _ (.tmp 5) _ from rfl) (show RV _ _ _ (.tmp 6) _ from rfl))) (fun w' hf => ?_)
      first | exact congrArg (fun z => Value.tuple #[.pointer none, .pointer none, .int .i64 z]) (S.tw1 hcn).symm | exact congrArg (fun z => Value.tuple #[.pointer none, .pointer none, .int .i64 z]) (S.tw2 hc0 hcn2).symm | exact congrArg (fun z => Value.tuple #[.pointer none, .pointer none, .int .i64 z]) (S.tw3 hc0 hd0 (fun e => ht (S.two_iff.2 ⟨hc0, hd0, e⟩))).symm
  · skip
    have hcn : ¬ S.check l 0 = 0 := ‹_›
    refine region (ops_y hH rfl rfl (yv_move rfl) ?_)
    refine op_fnV rfl rfl rfl hH (c72n (h0.now hH (n := 0) rfl) (by omega) hcn) (fun w31 hH32 => ?_)
    refine ops_y hH32 rfl rfl (yv_move rfl) (ops_y hH32 rfl rfl (yv_extract rfl rfl) (ops_y hH32 rfl rfl (yv_extract rfl rfl) (ops_y hH32 rfl rfl (yv_assign rfl) (ops_y hH32 rfl rfl (yv_assign rfl) (ops_nil (thn_n (seq (seq (region ?_)))))))))
    refine ops_y hH32 rfl rfl (yv_move rfl) ?_
    refine ops_y hH32 rfl rfl (yv_neq rfl rfl) ?_
    refine ops_nil (thn_n ?_)
    have hc33 : ¬ ((S.check l 0) = 0) := hcn
    refine cond_t rfl (not_decide_t hc33) ?_
    refine seq (region (ops_y hH32 rfl rfl (yv_move rfl) (ops_y hH32 rfl rfl (yv_assign rfl) (ops_y hH32 rfl rfl (yv_assign rfl) (ops_y hH32 rfl rfl (yv_assign rfl) (ops_nil (thn_n (ret (thn_r ?_)))))))))
    refine fin hH32 (fun w' hf => (res3 rfl (show RV _ _ _ (.tmp 4) _ from rfl) (show RV _ _ _ (.tmp 5) _ from rfl) (show RV _ _ _ (.tmp 6) _ from rfl))) (fun w' hf => ?_)
    first | exact congrArg (fun z => Value.tuple #[.pointer none, .pointer none, .int .i64 z]) (S.tw1 hcn).symm | exact congrArg (fun z => Value.tuple #[.pointer none, .pointer none, .int .i64 z]) (S.tw2 hc0 hcn2).symm | exact congrArg (fun z => Value.tuple #[.pointer none, .pointer none, .int .i64 z]) (S.tw3 hc0 hd0 (fun e => ht (S.two_iff.2 ⟨hc0, hd0, e⟩))).symm

theorem c38 {v u : Value} {l m : List Int} {w : World} (h0 : Rd encI 1 v l w) (h1 : Rd encI 1 u m w) (hn : l.length ≤ 1000000) (hn2 : m.length ≤ 1000000)  :
    Fn Try.prog 38 [v, u].toArray w (fun u w => ∃ q, u = .tuple #[q, .int .i64 (S.join l m).2] ∧ Own 3 1 encI q (S.join l m).1 w) := by
  refine fn_of' (args := [v, u]) Try.func38 rfl (ent Try.func38 (by kernel_rfl) rfl) rfl rfl (fun hH => ?_)
  refine seq (region (ops_y hH rfl rfl (yv_assign rfl) (ops_y hH rfl rfl (yv_assign rfl) (ops_nil (thn_n (seq ?_))))))
  by_cases hc1 : S.two l m = 0
  · skip
    have ht : S.two l m = 0 := ‹_›
    obtain ⟨hc1, hc2, hlm⟩ := S.two_iff.1 ht
    have hj : S.J l := S.check_iff.1 hc1
    have hj2 : S.J m := S.check_iff.1 hc2
    have hl1 := hj.1
    have hl10 := hj.2.1
    refine region (ops_y hH rfl rfl (yv_move rfl) (ops_y hH rfl rfl (yv_move rfl) ?_))
    refine op_fn rfl rfl rfl hH (c91 (h0.now hH (n := 0) rfl) (h1.now hH (n := 0) rfl) (by omega) (by omega) hj hj2 hlm) (fun u4 w2 lo5 hi6 hH3 hv7 => ?_)
    obtain ⟨b8, b9, _, _, hu, -⟩ := hv7
    subst hu
    obtain ⟨r10, r11, hH12⟩ := Heap.fixTwo hH3 (n := 0) rfl
    refine ops_y hH12 rfl rfl (yv_move rfl) (ops_y hH12 rfl rfl (yv_extract rfl rfl) (ops_y hH12 rfl rfl (yv_extract rfl rfl) (ops_y hH12 rfl rfl (yv_extract rfl rfl) (ops_y hH12 rfl rfl (yv_assign rfl) (ops_y hH12 rfl rfl (yv_assign rfl) (ops_y hH12 rfl rfl (yv_assign rfl) (ops_nil (thn_n (seq ?_)))))))))
    refine seq (region (ops_y hH12 rfl rfl (yv_move rfl) ?_))
    refine ops_y hH12 rfl rfl (yv_neq rfl rfl) ?_
    refine ops_nil (thn_n ?_)
    refine cond_f rfl rfl ?_
    refine skip (thn_n (seq (region (ops_y hH12 rfl rfl (yv_assign rfl) (ops_nil (thn_n (seq (seq (region ?_)))))))))
    refine ops_y hH12 rfl rfl (yv_move rfl) ?_
    refine ops_y hH12 rfl rfl (yv_nilck rfl) ?_
    refine ops_y hH12 rfl rfl (yv_field T.f89_0 rfl) ?_
    refine ops_y hH12 rfl rfl (yv_field T.f87_0 rfl) ?_
    refine ops_y hH12 rfl rfl (yv_load T.one22 rfl (fun _ hw => bx_cell ((show TwoAt 89 b8 b9 r10 r11 l m _ from hw.get (n := 0) rfl).1) rfl)) ?_
    refine ops_y hH12 rfl rfl (yv_len T.sl22 rfl ((show TwoAt 89 b8 b9 r10 r11 l m _ from hH12.get (n := 0) rfl).2.1).is) ?_
    refine ops_y hH12 rfl rfl (yv_move rfl) (ops_nil (thn_n (block ?_)))
    have hH13 := ow_nil (enc := encI) 3 1 hH12
    refine loop (S := Nat × Value × Nat × Nat) (fun (k, v_9, lo_9, hi_9) => [(28, (.int .i64 (k : Int))), (9, v_9), (4, (.slice none 0 0)), (5, (.int .i64 0)), (7, (.pointer (some ⟨b9, 0, none⟩))), (26, r10), (27, (.int .i64 (l.length : Int)))]) (fun (k, v_9, lo_9, hi_9) w1 => Heap [ow lo_9 hi_9 3 1 encI v_9 (S.behindTo l m k), ⟨lo5, hi6, TwoAt 89 b8 b9 r10 r11 l m⟩, base w] w1 ∧ k ≤ l.length) (fun (k, v_9, lo_9, hi_9) => l.length - k) (0, (.slice none 0 0), w2.heap.size, w2.heap.size) (Sub.cons rfl (Sub.cons rfl (Sub.cons rfl (Sub.cons rfl (Sub.cons rfl (Sub.cons rfl (Sub.cons rfl (Sub.nil _)))))))) ?_ ?_
    · exact ⟨(Heap.recast (n := 0) hH13 rfl (rfl)), by omega⟩
    · rintro ⟨k, v_9, lo_9, hi_9⟩ w14 ⟨hH15, hk⟩
      show Holds _ _ _ _ _ [(28, (.int .i64 (k : Int))), (9, v_9), (4, (.slice none 0 0)), (5, (.int .i64 0)), (7, (.pointer (some ⟨b9, 0, none⟩))), (26, r10), (27, (.int .i64 (l.length : Int)))] _ _
      refine seq (region ?_)
      refine ops_y hH15 rfl rfl (yv_lss rfl rfl) ?_
      refine ops_nil (thn_n (seq ?_))
      by_cases hc16 : (k : Int) < (l.length : Int)
      · skip
        refine cond_t rfl (decide_eq_true hc16) ?_
        refine skip (thn_n (seq (block (seq ?_))))
        have hbl := S.behindTo_length (l := l) (m := m) (k := k)
        have hik := hj.nth (x := (k : Int)) (by omega) (by omega)
        refine region ?_
        refine ops_y hH15 rfl rfl (yv_index T.sl22 rfl rfl ((show TwoAt 89 b8 b9 r10 r11 l m _ from hH15.get (n := 1) rfl).2.1).is (by omega)) ?_
        refine ops_y hH15 rfl rfl (yv_load T.one3 rfl (fun _ hw => Rd.at ((show TwoAt 89 b8 b9 r10 r11 l m _ from hw.get (n := 1) rfl).2.1) (i := (k : Int)) (by omega) (j := 0) rfl)) ?_
        refine ops_y hH15 rfl rfl (yv_assign rfl) (ops_nil (thn_n (region (ops_y hH15 rfl rfl (yv_move rfl) (ops_y hH15 rfl rfl (yv_move rfl) ?_)))))
        refine ops_y hH15 rfl rfl (yv_nilck rfl) ?_
        refine ops_y hH15 rfl rfl (yv_field T.f89_0 rfl) ?_
        refine ops_y hH15 rfl rfl (yv_field T.f87_0 rfl) ?_
        refine ops_y hH15 rfl rfl (yv_load T.one22 rfl (fun _ hw => bx_cell ((show TwoAt 89 b8 b9 r10 r11 l m _ from hw.get (n := 1) rfl).2.2.1) rfl)) ?_
        refine ops_y hH15 rfl rfl (yv_move rfl) ?_
        refine ops_y hH15 rfl rfl (yv_index T.sl22 rfl rfl ((show TwoAt 89 b8 b9 r10 r11 l m _ from hH15.get (n := 1) rfl).2.2.2).is (by omega)) ?_
        refine ops_y hH15 rfl rfl (yv_load T.one3 rfl (fun _ hw => Rd.at ((show TwoAt 89 b8 b9 r10 r11 l m _ from hw.get (n := 1) rfl).2.2.2) (i := nth l (k : Int)) (by omega) (j := 0) rfl)) ?_
        refine op_lit (us := [(0, (.int .i64 (nth m (nth l (k : Int)))))]) T.el22_encI [nth m (nth l (k : Int))] rfl (by decide) rfl (fun a ha => by simp [ha.ev (show ev _ (.tmp 40) = some _ from rfl)]) (fun w => by kernel_rfl) hH15 (fun u17 lo19 hi20 w18 hH21 => ?_)
        refine op_append (n := 1) T.el22_encI rfl rfl rfl hH21 rfl (Heap.rdw T.el22_encI hH21 (n := 0) rfl) (by first | omega | (simp only [List.length_append, List.length_cons, List.length_nil]; omega)) (fun u22 lo24 hi25 w23 hH26 => ?_)
        refine ops_y hH26 rfl rfl (yv_assign rfl) (ops_nil (blk_n (thn_n (region ?_))))
        refine ops_y hH26 rfl rfl (yv_add rfl rfl (by omega)) ?_
        refine ops_y hH26 rfl rfl (yv_move rfl) (ops_nil ?_)
        have hH27 := (hH26.sub (List.Sublist.cons _ (List.Sublist.refl _)))
        refine lp_n (k + 1, u22, lo24, hi25) (Sub.cons rfl (Sub.cons rfl (Sub.cons rfl (Sub.cons rfl (Sub.cons rfl (Sub.cons rfl (Sub.cons rfl (Sub.nil _)))))))) ?_ ?_
        · exact ⟨(Heap.recast (n := 0) hH27 rfl (S.behindTo_succ.symm)), by omega⟩
        · first | (dsimp only; omega) | (show _ < _; omega)
      · skip
        refine cond_f rfl (decide_eq_false hc16) ?_
        refine exit (thn_x (lp_x (blk_here (thn_n (seq (region (ops_y hH15 rfl rfl (yv_move rfl) (ops_y hH15 rfl rfl (yv_assign rfl) (ops_y hH15 rfl rfl (yv_assign rfl) ?_)))))))))
        refine ops_nil (thn_n (ret ?_))
        have hH28 := (hH15.sub (List.Sublist.cons_cons _ (List.Sublist.cons _ (List.Sublist.refl _))))
        refine fin (hH28.front (n := 1) rfl) (fun w' hf => (res2 rfl (show RV _ _ _ (.tmp 4) _ from rfl) (show RV _ _ _ (.tmp 5) _ from rfl))) (fun w' hf => ?_)
        first | (rw [S.jn1 htn]; exact ⟨_, rfl, own_nil⟩) | (have hk2 : k = l.length := (by omega); subst hk2; rw [S.jn2 ht]; exact ⟨_, rfl, Heap.own hf (n := 0) rfl⟩)
  · skip
    have htn : ¬ S.two l m = 0 := ‹_›
    refine region (ops_y hH rfl rfl (yv_move rfl) (ops_y hH rfl rfl (yv_move rfl) ?_))
    refine op_fnV rfl rfl rfl hH (c91n (h0.now hH (n := 0) rfl) (h1.now hH (n := 0) rfl) (by omega) (by omega) htn) (fun w29 hH30 => ?_)
    refine ops_y hH30 rfl rfl (yv_move rfl) (ops_y hH30 rfl rfl (yv_extract rfl rfl) (ops_y hH30 rfl rfl (yv_extract rfl rfl) (ops_y hH30 rfl rfl (yv_extract rfl rfl) (ops_y hH30 rfl rfl (yv_assign rfl) (ops_y hH30 rfl rfl (yv_assign rfl) (ops_y hH30 rfl rfl (yv_assign rfl) (ops_nil (thn_n (seq ?_)))))))))
    refine seq (region (ops_y hH30 rfl rfl (yv_move rfl) ?_))
    refine ops_y hH30 rfl rfl (yv_neq rfl rfl) ?_
    refine ops_nil (thn_n ?_)
    have hc31 : ¬ ((S.two l m) = 0) := htn
    refine cond_t rfl (not_decide_t hc31) ?_
    refine seq (region (ops_y hH30 rfl rfl (yv_move rfl) (ops_y hH30 rfl rfl (yv_assign rfl) (ops_y hH30 rfl rfl (yv_assign rfl) (ops_nil (thn_n (ret (thn_r ?_))))))))
    refine fin hH30 (fun w' hf => (res2 rfl (show RV _ _ _ (.tmp 4) _ from rfl) (show RV _ _ _ (.tmp 5) _ from rfl))) (fun w' hf => ?_)
    first | (rw [S.jn1 htn]; exact ⟨_, rfl, own_nil⟩) | (have hk2 : k = l.length := (by omega); subst hk2; rw [S.jn2 ht]; exact ⟨_, rfl, Heap.own hf (n := 0) rfl⟩)

end Go.Fip

set_option linter.unusedVariables false
set_option linter.unusedSimpArgs false
set_option linter.unusedSectionVars false
set_option linter.unnecessarySimpa false
namespace Go.Fip
open Go.Proofs Go.RowKit

theorem fnd_first {n : Nat} {p q : Int → Bool} {x : Int} (h0 : 0 ≤ x) (h1 : x < (n : Int)) (hq : q x = true) (hall : ∀ y, 0 ≤ y → y < x → q y = false) (he : ∀ y, 0 ≤ y → y < (n : Int) → p y = q y) : fnd p (S.right n) = (x, true) := by
  have hr : ∀ k : Nat, k < n → nth (S.right n) (k : Int) = (k : Int) := fun k hk => S.nth_right (by omega) (by omega)
  obtain ⟨k, rfl⟩ := Int.eq_ofNat_of_zero_le h0
  have hk : k < n := by omega
  rw [fnd_hit (k := k) (by rw [S.right_length]; exact hk) (fun i hi => ?_) ?_, hr k hk]
  · rw [hr k hk, he _ h0 h1]; exact hq
  · rw [hr i (by omega), he _ (by omega) (by omega)]; exact hall _ (by omega) (by omega)
theorem fnd_none {n : Nat} {p : Int → Bool} (he : ∀ y, 0 ≤ y → y < (n : Int) → p y = false) : fnd p (S.right n) = (0, false) := fnd_miss fun i hi => by
  rw [S.right_length] at hi
  rw [S.nth_right (by omega) (by omega)]
  exact he _ (by omega) (by omega)
theorem alk_fnd {a b U : List Int} {i : Nat} {N : Int} (hb : S.J b) (hm : ∀ p, S.many a p = S.many b p) (hi : i < S.cyc a) (hU : S.Mk a b 0 1 i 0 U) (hN : N = (S.len a i : Int)) : fnd (fun y : Int => decide (nth U y = 0 ∧ (S.per b y : Int) = N)) (S.right b.length) = (S.X a b i, true) := by
  obtain ⟨h0, h1, hp, hn, hall⟩ := S.X_spec hb hm hi
  refine fnd_first h0 h1 (S.goodX_iff.2 ⟨hn, hp⟩) hall fun y y0 y1 => ?_
  rw [Bool.eq_iff_iff, decide_eq_true_eq, ← hU.good (by decide) y0 y1, hN]
  constructor
  · rintro ⟨h2, h3⟩; exact ⟨h2, by omega⟩
  · rintro ⟨h2, h3⟩; exact ⟨h2, by omega⟩
theorem rep_nth {n : Nat} {x : Int} : ∀ i, i < n → nth (List.replicate n x) (i : Int) = x := fun i hi => by
  rw [nth_nat (by simpa using hi)]; simp

theorem c113 {y : Int} {b6 b3 b b7 : Nat} {uv v cv : Value} {U m c : List Int} {w : World} (k6 : Bx b6 22 [uv] w) (hU : Rd encI 1 uv U w) (k3 : Bx b3 73 [.pointer (some ⟨b, 0, none⟩)] w) (kb : Bx b 89 [v] w) (h0 : Rd encI 1 v m w) (k7 : Bx b7 22 [cv] w) (hc : Rd encI 1 cv c w) (hj : S.J m) (hUl : U.length = m.length) (hy : 0 ≤ y) (hy2 : y < (m.length : Int))  :
    Fn Try.prog 113 [(.int .i64 y), (.pointer (some ⟨b6, 0, none⟩)), (.pointer (some ⟨b3, 0, none⟩)), (.pointer (some ⟨b7, 0, none⟩))].toArray w (fun u _ => u = .bool (decide (nth U y = 0 ∧ (S.per m y : Int) = (c.length : Int)))) := by
  refine fn_of' (args := [(.int .i64 y), (.pointer (some ⟨b6, 0, none⟩)), (.pointer (some ⟨b3, 0, none⟩)), (.pointer (some ⟨b7, 0, none⟩))]) Try.func113 rfl (ent Try.func113 (by kernel_rfl) rfl) rfl rfl (fun hH => ?_)
  have hm10 := hj.2.1
  have hcl := S.circ_length (l := m) (a := y)
  have hpl := (hj.per_at hy hy2).2
  refine seq (region (ops_y hH rfl rfl (yv_assign rfl) (ops_nil (thn_n (seq ?_)))))
  refine region_draw (fun w' => Heap [base w] w') T.mixed (fun w1 hr2 => ?_)
  have hH3 := hH.redrawn hr2
  refine any_takes [0, 1, 2, 3, 4, 5] (by kernel_rfl) hH3 _ _ _ (by kernel_rfl) ?_
  refine qs_y rfl rfl (yv_load T.one22 rfl (fun _ hw => bx_cell (k6.now hw (n := 0) rfl) rfl)) ?_
  refine qs_y rfl rfl (yv_move rfl) ?_
  refine qs_y rfl rfl (yv_index T.sl22 rfl rfl (hU.now hH3 (n := 0) rfl).is (by omega)) ?_
  refine qs_y rfl rfl (yv_load T.one3 rfl (fun _ hw => Rd.at (hU.now hw (n := 0) rfl) (i := y) (by omega) (j := 0) rfl)) ?_
  refine qs_y rfl rfl (yv_eql rfl rfl) ?_
  refine qs_y rfl rfl (yv_move rfl) (qs_nil ?_)
  by_cases hc4 : (nth U y) = 0
  · skip
    refine any_takes [6, 7, 8, 9, 10, 13, 14] (by kernel_rfl) hH3 _ _ _ (by kernel_rfl) ?_
    refine qs_yes rfl rfl rfl (decide_eq_true hc4) rfl (yv_load T.one73 rfl (fun _ hw => bx_cell (k3.now hw (n := 0) rfl) rfl)) ?_
    refine qs_yes rfl rfl rfl (decide_eq_true hc4) rfl (yv_nilck rfl) ?_
    refine qs_yes rfl rfl rfl (decide_eq_true hc4) rfl (yv_field T.f89_0 rfl) ?_
    refine qs_yes rfl rfl rfl (decide_eq_true hc4) rfl (yv_loadA (cs := [v]) T.agg87 rfl rfl (fun _ hw => bx_cells (kb.now hw (n := 0) rfl) (k := 0) rfl)) ?_
    refine qs_yes rfl rfl rfl (decide_eq_true hc4) rfl (yv_move rfl) ?_
    refine qs_yes rfl rfl rfl (decide_eq_true hc4) rfl (yv_load T.one22 rfl (fun _ hw => bx_cell (k7.now hw (n := 0) rfl) rfl)) ?_
    refine qs_yes rfl rfl rfl (decide_eq_true hc4) rfl (yv_len T.sl22 rfl (hc.now hH3 (n := 0) rfl).is) ?_
    refine qs_nil ?_
    refine any_all [11] (by kernel_rfl) rfl ?_
    refine ⟨⟨_, rfl, ?_⟩, trivial⟩
    · skip
      refine guard_yes rfl rfl (decide_eq_true hc4) ?_
      refine op_fn rfl rfl rfl hH3 (c105 (h0.now hH3 (n := 0) rfl) hj (by omega) (by omega)) (fun u7 w5 lo8 hi9 hH6 hv10 => ?_)
      have hH11 := Heap.toOw hH6 (n := 0) rfl
      refine ops_nil ?_
      refine ⟨(hH11.sub (List.Sublist.cons _ (List.Sublist.refl _))), ?_⟩
      refine any_takes [12, 15, 16, 17] (by kernel_rfl) (hH11.sub (List.Sublist.cons _ (List.Sublist.refl _))) _ _ _ (by kernel_rfl) ?_
      refine qs_yes rfl rfl rfl (decide_eq_true hc4) rfl (yv_len T.sl22 rfl (Heap.rdw T.el22_encI hH11 (n := 0) rfl).is) ?_
      refine qs_yes rfl rfl rfl (decide_eq_true hc4) rfl (yv_eql rfl rfl) ?_
      refine qs_y rfl rfl (yv_pick_t rfl (decide_eq_true hc4) rfl) ?_
      refine qs_y rfl rfl (yv_assign rfl) (qs_nil ?_)
      refine any_done (by kernel_rfl) ?_
      refine thn_n (ret ?_)
      have hH12 := (hH11.sub (List.Sublist.cons _ (List.Sublist.refl _)))
      refine fin hH12 (fun w' hf => (res1 rfl (show RV _ _ _ (.tmp 5) _ from rfl))) (fun w' hf => ?_)
      show Value.bool _ = Value.bool _; congr 1; first | (refine (decide_eq_false (fun h => ?_)).symm; exact absurd h.1 (by assumption)) | (refine decide_eq_decide.2 ?_; constructor <;> intro h <;> (try constructor) <;> omega)
  · skip
    refine any_takes [6, 7, 8, 9, 10, 11, 12, 13, 14, 15, 16, 17] (by kernel_rfl) hH3 _ _ _ (by kernel_rfl) ?_
    refine qs_no rfl rfl rfl (decide_eq_false hc4) rfl ?_
    refine qs_no rfl rfl rfl (decide_eq_false hc4) rfl ?_
    refine qs_no rfl rfl rfl (decide_eq_false hc4) rfl ?_
    refine qs_no rfl rfl rfl (decide_eq_false hc4) rfl ?_
    refine qs_no rfl rfl rfl (decide_eq_false hc4) rfl ?_
    refine qs_no rfl rfl rfl (decide_eq_false hc4) rfl ?_
    refine qs_no rfl rfl rfl (decide_eq_false hc4) rfl ?_
    refine qs_no rfl rfl rfl (decide_eq_false hc4) rfl ?_
    refine qs_no rfl rfl rfl (decide_eq_false hc4) rfl ?_
    refine qs_no rfl rfl rfl (decide_eq_false hc4) rfl ?_
    refine qs_y rfl rfl (yv_pick_f rfl (decide_eq_false hc4) rfl) ?_
    refine qs_y rfl rfl (yv_assign rfl) (qs_nil ?_)
    refine any_done (by kernel_rfl) ?_
    refine thn_n (ret ?_)
    refine fin hH3 (fun w' hf => (res1 rfl (show RV _ _ _ (.tmp 5) _ from rfl))) (fun w' hf => ?_)
    show Value.bool _ = Value.bool _; congr 1; first | (refine (decide_eq_false (fun h => ?_)).symm; exact absurd h.1 (by assumption)) | (refine decide_eq_decide.2 ?_; constructor <;> intro h <;> (try constructor) <;> omega)

theorem c85_113 {u : Value} {b6 b3 b b7 : Nat} {uv v cv : Value} {U m c : List Int} {w : World} (k6 : Bx b6 22 [uv] w) (hU : Rd encI 1 uv U w) (k3 : Bx b3 73 [.pointer (some ⟨b, 0, none⟩)] w) (kb : Bx b 89 [v] w) (h0 : Rd encI 1 v m w) (k7 : Bx b7 22 [cv] w) (hc : Rd encI 1 cv c w) (hj : S.J m) (hUl : U.length = m.length) (h1 : Rd encI 1 u (S.right m.length) w)  :
    Fn Try.prog 85 [u, (.func (.func 113) #[] #[(.pointer (some ⟨b6, 0, none⟩)), (.pointer (some ⟨b3, 0, none⟩)), (.pointer (some ⟨b7, 0, none⟩))])].toArray w (fun u _ => u = .tuple #[.int .i64 (fnd (fun y : Int => decide (nth U y = 0 ∧ (S.per m y : Int) = (c.length : Int))) (S.right m.length)).1, .bool (fnd (fun y : Int => decide (nth U y = 0 ∧ (S.per m y : Int) = (c.length : Int))) (S.right m.length)).2]) := by
  refine fn_of' (args := [u, (.func (.func 113) #[] #[(.pointer (some ⟨b6, 0, none⟩)), (.pointer (some ⟨b3, 0, none⟩)), (.pointer (some ⟨b7, 0, none⟩))])]) Try.func85 rfl (ent Try.func85 (by kernel_rfl) rfl) rfl rfl (fun hH => ?_)
  have hm10 := hj.2.1
  have hrl := S.right_length m.length
  refine seq (region (ops_y hH rfl rfl (yv_assign rfl) (ops_y hH rfl rfl (yv_assign rfl) (ops_nil (thn_n (seq (seq (region (ops_y hH rfl rfl (yv_move rfl) ?_)))))))))
  refine ops_y hH rfl rfl (yv_len T.sl22 rfl (h1.now hH (n := 0) rfl).is) ?_
  refine ops_y hH rfl rfl (yv_move rfl) (ops_nil (thn_n (block ?_)))
  refine loop (S := Nat) (fun k => [(11, (.int .i64 (k : Int))), (1, (.func (.func 113) #[] #[(.pointer (some ⟨b6, 0, none⟩)), (.pointer (some ⟨b3, 0, none⟩)), (.pointer (some ⟨b7, 0, none⟩))])), (9, u), (10, (.int .i64 ((S.right m.length).length : Int)))]) (fun k w1 => Heap [base w] w1 ∧ k ≤ (S.right m.length).length ∧ ∀ i, i < k → (fun y : Int => decide (nth U y = 0 ∧ (S.per m y : Int) = (c.length : Int))) (nth (S.right m.length) (i : Int)) = false) (fun k => (S.right m.length).length - k) (0) (Sub.cons rfl (Sub.cons rfl (Sub.cons rfl (Sub.cons rfl (Sub.nil _))))) ?_ ?_
  · exact ⟨hH, by omega, S.all_zero⟩
  · rintro k w1 ⟨hH2, hk, hall⟩
    show Holds _ _ _ _ _ [(11, (.int .i64 (k : Int))), (1, (.func (.func 113) #[] #[(.pointer (some ⟨b6, 0, none⟩)), (.pointer (some ⟨b3, 0, none⟩)), (.pointer (some ⟨b7, 0, none⟩))])), (9, u), (10, (.int .i64 ((S.right m.length).length : Int)))] _ _
    refine seq (region ?_)
    refine ops_y hH2 rfl rfl (yv_lss rfl rfl) ?_
    refine ops_nil (thn_n (seq ?_))
    by_cases hc3 : (k : Int) < ((S.right m.length).length : Int)
    · skip
      refine cond_t rfl (decide_eq_true hc3) ?_
      refine skip (thn_n (seq (block (seq (region ?_)))))
      refine ops_y hH2 rfl rfl (yv_index T.sl22 rfl rfl (h1.now hH2 (n := 0) rfl).is (by omega)) ?_
      refine ops_y hH2 rfl rfl (yv_load T.one3 rfl (fun _ hw => Rd.at (h1.now hw (n := 0) rfl) (i := (k : Int)) (by omega) (j := 0) rfl)) ?_
      refine ops_y hH2 rfl rfl (yv_assign rfl) (ops_nil (thn_n (seq ?_)))
      have hnr := S.nth_right (n := m.length) (x := (k : Int)) (by omega) (by omega)
      refine region (ops_y hH2 rfl rfl (yv_move rfl) (ops_y hH2 rfl rfl (yv_move rfl) ?_))
      refine op_fnV rfl rfl rfl hH2 (c113 (k6.now hH2 (n := 0) rfl) (hU.now hH2 (n := 0) rfl) (k3.now hH2 (n := 0) rfl) (kb.now hH2 (n := 0) rfl) (h0.now hH2 (n := 0) rfl) (k7.now hH2 (n := 0) rfl) (hc.now hH2 (n := 0) rfl) hj hUl (by omega) (by omega)) (fun w4 hH5 => ?_)
      refine ops_nil (thn_n ?_)
      by_cases hc6 : nth U (nth (S.right m.length) (k : Int)) = 0 ∧ (S.per m (nth (S.right m.length) (k : Int)) : Int) = (c.length : Int)
      · skip
        have hp : (fun y : Int => decide (nth U y = 0 ∧ (S.per m y : Int) = (c.length : Int))) (nth (S.right m.length) (k : Int)) = true := (decide_eq_true hc6)
        refine cond_t rfl (decide_eq_true hc6) ?_
        refine seq (region (ops_y hH5 rfl rfl (yv_move rfl) (ops_y hH5 rfl rfl (yv_assign rfl) (ops_y hH5 rfl rfl (yv_assign rfl) (ops_nil (thn_n (ret (blk_r (thn_r ?_)))))))))
        refine lp_r (blk_r (thn_r ?_))
        refine fin hH5 (fun w' hf => (res2 rfl (show RV _ _ _ (.tmp 4) _ from rfl) (show RV _ _ _ (.tmp 5) _ from rfl))) (fun w' hf => ?_)
        first | exact tupb (fnd_hit (k := k) (by omega) hall hp) | exact tupb (fnd_miss (fun i hi => hall i (by omega)))
      · skip
        have hp : (fun y : Int => decide (nth U y = 0 ∧ (S.per m y : Int) = (c.length : Int))) (nth (S.right m.length) (k : Int)) = false := (decide_eq_false hc6)
        refine cond_f rfl (decide_eq_false hc6) ?_
        refine skip (blk_n (thn_n (region ?_)))
        refine ops_y hH5 rfl rfl (yv_add rfl rfl (by omega)) ?_
        refine ops_y hH5 rfl rfl (yv_move rfl) (ops_nil ?_)
        refine lp_n (k + 1) (Sub.cons rfl (Sub.cons rfl (Sub.cons rfl (Sub.cons rfl (Sub.nil _))))) ?_ ?_
        · exact ⟨hH5, by omega, S.all_snoc hall hp⟩
        · first | (dsimp only; omega) | (show _ < _; omega)
    · skip
      refine cond_f rfl (decide_eq_false hc3) ?_
      refine exit (thn_x (lp_x (blk_here (thn_n (seq (region (ops_y hH2 rfl rfl (yv_assign rfl) (ops_nil (thn_n ?_)))))))))
      refine seq (region (ops_y hH2 rfl rfl (yv_move rfl) (ops_y hH2 rfl rfl (yv_assign rfl) (ops_y hH2 rfl rfl (yv_assign rfl) (ops_nil (thn_n (ret ?_)))))))
      refine fin hH2 (fun w' hf => (res2 rfl (show RV _ _ _ (.tmp 4) _ from rfl) (show RV _ _ _ (.tmp 5) _ from rfl))) (fun w' hf => ?_)
      first | exact tupb (fnd_hit (k := k) (by omega) hall hp) | exact tupb (fnd_miss (fun i hi => hall i (by omega)))

theorem c94 {b : Nat} {v : Value} {l : List Int} {w : World} (hb : Bx b 89 [v] w) (h0 : Rd encI 1 v l w) (hj : S.J l) {b2 : Nat} {v2 : Value} {m : List Int} (hb2 : Bx b2 89 [v2] w) (h2 : Rd encI 1 v2 m w) (hj2 : S.J m) (hlm : l.length = m.length) (hm : ∀ p, S.many l p = S.many m p)  :
    Fn Try.prog 94 [(.pointer (some ⟨b, 0, none⟩)), (.pointer (some ⟨b2, 0, none⟩))].toArray w (fun u w => Own 3 1 encI u (S.alk l m) w) := by
  refine fn_of' (args := [(.pointer (some ⟨b, 0, none⟩)), (.pointer (some ⟨b2, 0, none⟩))]) Try.func94 rfl (ent Try.func94 (by kernel_rfl) rfl) rfl rfl (fun hH => ?_)
  have hl10 := hj.2.1
  have hm10 := hj2.2.1
  have hcy := hj.cyc_le
  have hrm := S.right_length m.length
  refine seq (region ?_)
  refine op_box (us := [(.pointer (some ⟨b2, 0, none⟩))]) rfl rfl rfl hH (fun b1 w2 hH3 => ?_)
  refine ops_y hH3 rfl rfl (yv_assign rfl) (ops_nil (thn_n (seq (region (ops_y hH3 rfl rfl (yv_move rfl) ?_)))))
  refine ops_y hH3 rfl rfl (yv_nilck rfl) ?_
  refine ops_y hH3 rfl rfl (yv_field T.f89_0 rfl) ?_
  refine ops_y hH3 rfl rfl (yv_field T.f87_0 rfl) ?_
  refine ops_y hH3 rfl rfl (yv_load T.one22 rfl (fun _ hw => bx_cell (hb.now hw (n := 1) rfl) rfl)) ?_
  refine ops_y hH3 rfl rfl (yv_len T.sl22 rfl (h0.now hH3 (n := 1) rfl).is) ?_
  refine op_make T.el22_encI (0 : Int) T.z22_encI rfl rfl rfl hH3 (by omega) (by omega) (fun u4 lo6 hi7 w5 hH8 => ?_)
  refine op_alloc (z := (.slice none 0 0)) (us := [(.slice none 0 0)]) (fun _ => by kernel_rfl) rfl rfl hH8 (fun b9 w10 hH11 => ?_)
  refine op_store (n := 0) (j := 0) (us := [u4]) rfl rfl hH11 rfl T.sz22 (SliceIs.cells (Heap.rdw T.el22_encI hH11 (n := 1) rfl).is) rfl rfl (SliceIs.one (Heap.rdw T.el22_encI hH11 (n := 1) rfl).is) (fun w12 hH13 => ?_)
  refine ops_nil (thn_n (seq (region (ops_y hH13 rfl rfl (yv_move rfl) ?_))))
  refine ops_y hH13 rfl rfl (yv_nilck rfl) ?_
  refine ops_y hH13 rfl rfl (yv_field T.f89_0 rfl) ?_
  refine ops_y hH13 rfl rfl (yv_field T.f87_0 rfl) ?_
  refine ops_y hH13 rfl rfl (yv_load T.one22 rfl (fun _ hw => bx_cell (hb.now hw (n := 3) rfl) rfl)) ?_
  refine ops_y hH13 rfl rfl (yv_len T.sl22 rfl (h0.now hH13 (n := 3) rfl).is) ?_
  refine op_make T.el22_encI (0 : Int) T.z22_encI rfl rfl rfl hH13 (by omega) (by omega) (fun u14 lo16 hi17 w15 hH18 => ?_)
  refine op_alloc (z := (.slice none 0 0)) (us := [(.slice none 0 0)]) (fun _ => by kernel_rfl) rfl rfl hH18 (fun b19 w20 hH21 => ?_)
  refine op_store (n := 0) (j := 0) (us := [u14]) rfl rfl hH21 rfl T.sz22 (SliceIs.cells (Heap.rdw T.el22_encI hH21 (n := 1) rfl).is) rfl rfl (SliceIs.one (Heap.rdw T.el22_encI hH21 (n := 1) rfl).is) (fun w22 hH23 => ?_)
  refine ops_nil (thn_n (seq (seq (region (ops_y hH23 rfl rfl (yv_move rfl) ?_)))))
  refine op_fn rfl rfl rfl hH23 (c74) (fun u26 w24 lo27 hi28 hH25 hv29 => ?_)
  obtain ⟨cb30, hu, -⟩ := hv29
  subst hu
  have hH31 := Heap.cap1 hH25 (n := 0) rfl
  refine ops_nil (thn_n (block ?_))
  refine rangeFuncF (n := (S.cyc l)) rfl (it104 (b1 := cb30) (b := b) (v := v) hj) rfl hH31 (fun i H => ∃ o : List Int, ∃ U : List Int, ∃ v_a : Value, ∃ lo_a : Nat, ∃ hi_a : Nat, ∃ v_a1 : Value, ∃ lo_a1 : Nat, ∃ hi_a1 : Nat, H = [⟨lo27, hi28, Bx cb30 73 [(.pointer (some ⟨b, 0, none⟩))]⟩, bx b19 22 [v_a1], ow lo_a1 hi_a1 3 1 encI v_a1 U, bx b9 22 [v_a], ow lo_a hi_a 3 1 encI v_a o, bx b1 73 [(.pointer (some ⟨b2, 0, none⟩))], base w] ∧ S.AlkI l m i o ∧ S.Mk l m 0 1 i 0 U) (fun c H => False) ⟨(List.replicate ((l.length : Int)).toNat (0 : Int)), (List.replicate ((l.length : Int)).toNat (0 : Int)), u4, lo6, hi7, u14, lo16, hi17, rfl, S.AlkI.start (by simp), S.Mk.start (by simp; omega) (fun j hj3 => rep_nth j (by omega))⟩ (fun i H w hI hw => ?_) (fun l32 D33 i34 x35 lo39 hi40 H w37 rc hx36 hI hH38 => ?_) (fun D33 H w37 hI hH38 => ?_) (fun D33 c H w37 hI hH38 => ?_)
  · skip
    obtain ⟨_, _, _, _, _, _, _, _, rfl, _⟩ := hI
    exact ⟨hw.get (n := 0) rfl, (hb.now hw (n := 6) rfl), (h0.now hw (n := 6) rfl)⟩
  · skip
    obtain ⟨o, U, v_a, lo_a, hi_a, v_a1, lo_a1, hi_a1, rfl, hA, hU⟩ := hI
    have hH41 := Heap.toOw hH38 (n := 2) rfl
    refine region ?_
    refine op_alloc (z := (.slice none 0 0)) (us := [(.slice none 0 0)]) (fun _ => by kernel_rfl) rfl rfl hH41 (fun b42 w43 hH44 => ?_)
    refine op_store (n := 0) (j := 0) (us := [x35]) rfl rfl hH44 rfl T.sz22 (SliceIs.cells (Heap.rdw T.el22_encI hH44 (n := 3) rfl).is) rfl rfl (SliceIs.one (Heap.rdw T.el22_encI hH44 (n := 3) rfl).is) (fun w45 hH46 => ?_)
    refine ops_nil ?_
    have hH49 := hH46.front (n := 10) rfl
    have hH50 := hH49.front (n := 10) rfl
    have hH51 := hH50.front (n := 10) rfl
    have hH52 := hH51.front (n := 10) rfl
    have hH53 := hH52.front (n := 10) rfl
    have hH54 := hH53.front (n := 10) rfl
    have hH55 := hH54.front (n := 10) rfl
    have hH56 := hH55.front (n := 10) rfl
    have hH57 := hH56.front (n := 10) rfl
    have hH58 := hH57.front (n := 9) rfl
    have hH59 := hH58.front (n := 10) rfl
    refine ⟨_, hH59, fun w47 hH48 => ?_⟩
    refine block (seq ?_)
    have hmi := S.J.mn hj (i := i34) (by omega)
    have hX := S.X_spec hj2 hm (i := i34) (by omega)
    obtain ⟨hX0, hX1, hXp, -, -⟩ := hX
    have hul0 := hU.1
    have hlp : ((S.circ l (((S.mins l).getD i34 0 : Nat) : Int)).length : Int) = (S.len l i34 : Int) := congrArg (fun z : Nat => (z : Int)) S.circ_length
    have hmp : (S.circ m (S.X l m i34)).length = S.per m (S.X l m i34) := S.circ_length
    have hpl := (hj2.per_at hX0 hX1).2
    have hfd := alk_fnd hj2 hm (i := i34) (by omega) hU hlp
    refine region ?_
    refine ops_y hH48 rfl rfl (yv_load T.one73 rfl (fun _ hw => Heap.cellw hw (n := 9) rfl rfl)) ?_
    refine ops_y hH48 rfl rfl (yv_nilck rfl) ?_
    refine ops_y hH48 rfl rfl (yv_field T.f89_0 rfl) ?_
    refine ops_y hH48 rfl rfl (yv_loadA (cs := [v2]) T.agg87 rfl rfl (fun _ hw => bx_cells (hb2.now hw (n := 10) rfl) (k := 0) rfl)) ?_
    refine op_fn rfl rfl rfl hH48 (c86 (h2.now hH48 (n := 10) rfl) (by omega) (by omega)) (fun u62 w60 lo63 hi64 hH61 hv65 => ?_)
    have hH66 := Heap.toOw hH61 (n := 0) rfl
    refine ops_y hH66 rfl rfl (yv_func rfl rfl) ?_
    have hev69 : Fn Try.prog 85 [u62, (.func (.func 113) #[] #[(.pointer (some ⟨b19, 0, none⟩)), (.pointer (some ⟨b1, 0, none⟩)), (.pointer (some ⟨b42, 0, none⟩))])].toArray _ _ := c85_113 (Heap.bxw hH66 (n := 6) rfl) (Heap.rdw T.el22_encI hH66 (n := 7) rfl) (Heap.bxw hH66 (n := 10) rfl) ((hb2.now hH66 (n := 11) rfl)) (h2.now hH66 (n := 11) rfl) (Heap.bxw hH66 (n := 2) rfl) (Heap.rdw T.el22_encI hH66 (n := 4) rfl) hj2 (by omega) (Heap.rdw T.el22_encI hH66 (n := 0) rfl)
    simp only [hfd] at hev69
    refine op_fnV rfl rfl rfl hH66 (hev69) (fun w67 hH68 => ?_)
    refine ops_y hH68 rfl rfl (yv_move rfl) (ops_y hH68 rfl rfl (yv_extract rfl rfl) (ops_y hH68 rfl rfl (yv_extract rfl rfl) (ops_y hH68 rfl rfl (yv_assign rfl) (ops_y hH68 rfl rfl (yv_assign rfl) (ops_nil (thn_n (seq (region ?_))))))))
    refine ops_y hH68 rfl rfl (yv_load T.one73 rfl (fun _ hw => Heap.cellw hw (n := 10) rfl rfl)) ?_
    refine ops_y hH68 rfl rfl (yv_nilck rfl) ?_
    refine ops_y hH68 rfl rfl (yv_field T.f89_0 rfl) ?_
    refine ops_y hH68 rfl rfl (yv_loadA (cs := [v2]) T.agg87 rfl rfl (fun _ hw => bx_cells (hb2.now hw (n := 11) rfl) (k := 0) rfl)) ?_
    refine ops_y hH68 rfl rfl (yv_move rfl) ?_
    refine op_fn rfl rfl rfl hH68 (c105 (h2.now hH68 (n := 11) rfl) hj2 (by omega) (by omega)) (fun u72 w70 lo73 hi74 hH71 hv75 => ?_)
    have hH76 := Heap.toOw hH71 (n := 0) rfl
    refine ops_y hH76 rfl rfl (yv_len T.sl22 rfl (Heap.rdw T.el22_encI hH76 (n := 0) rfl).is) ?_
    refine ops_y hH76 rfl rfl (yv_move rfl) (ops_nil (thn_n (block ?_)))
    refine loop (S := Nat × List Int × List Int × Value × Nat × Nat × Value × Nat × Nat) (fun (k, o2, U2, v_b5, lo_b5, hi_b5, v_b6, lo_b6, hi_b6) => [(46, (.int .i64 (k : Int))), (4, (.slice none 0 0)), (5, (.pointer (some ⟨b9, 0, none⟩))), (6, (.pointer (some ⟨b19, 0, none⟩))), (7, (.pointer (some ⟨b42, 0, none⟩))), (44, u72), (45, (.int .i64 ((S.circ m (S.X l m i34)).length : Int)))]) (fun (k, o2, U2, v_b5, lo_b5, hi_b5, v_b6, lo_b6, hi_b6) w1 => Heap [ow lo73 hi74 3 1 encI u72 (S.circ m (S.X l m i34)), ow lo63 hi64 3 1 encI u62 (S.right m.length), recItem l32 { rc with state := .busy }, bx b42 22 [x35], markItem D33, ow lo39 hi40 3 1 encI x35 (S.circ l (((S.mins l).getD i34 0 : Nat) : Int)), ⟨lo27, hi28, Bx cb30 73 [(.pointer (some ⟨b, 0, none⟩))]⟩, bx b19 22 [v_b6], ow lo_b6 hi_b6 3 1 encI v_b6 U2, bx b9 22 [v_b5], ow lo_b5 hi_b5 3 1 encI v_b5 o2, bx b1 73 [(.pointer (some ⟨b2, 0, none⟩))], base w] w1 ∧ k ≤ S.len l i34 ∧ S.AlkJ l m i34 k o2 ∧ S.Mk l m 0 1 i34 k U2) (fun (k, o2, U2, v_b5, lo_b5, hi_b5, v_b6, lo_b6, hi_b6) => S.len l i34 - k) (0, o, U, v_a, lo_a, hi_a, v_a1, lo_a1, hi_a1) (Sub.cons rfl (Sub.cons rfl (Sub.cons rfl (Sub.cons rfl (Sub.cons rfl (Sub.cons rfl (Sub.cons rfl (Sub.nil _)))))))) ?_ ?_
    · exact ⟨hH76, Nat.zero_le _, hA.go, hU⟩
    · rintro ⟨k, o2, U2, v_b5, lo_b5, hi_b5, v_b6, lo_b6, hi_b6⟩ w77 ⟨hH78, hk, hA2, hU2⟩
      show Holds _ _ _ _ _ [(46, (.int .i64 (k : Int))), (4, (.slice none 0 0)), (5, (.pointer (some ⟨b9, 0, none⟩))), (6, (.pointer (some ⟨b19, 0, none⟩))), (7, (.pointer (some ⟨b42, 0, none⟩))), (44, u72), (45, (.int .i64 ((S.circ m (S.X l m i34)).length : Int)))] _ _
      refine seq (region ?_)
      refine ops_y hH78 rfl rfl (yv_lss rfl rfl) ?_
      refine ops_nil (thn_n (seq ?_))
      by_cases hc79 : (k : Int) < ((S.circ m (S.X l m i34)).length : Int)
      · skip
        refine cond_t rfl (decide_eq_true hc79) ?_
        refine skip (thn_n (seq (block (seq (region (ops_y hH78 rfl rfl (yv_move rfl) ?_))))))
        refine ops_y hH78 rfl rfl (yv_index T.sl22 rfl rfl (Heap.rdw T.el22_encI hH78 (n := 0) rfl).is (by omega)) ?_
        refine ops_y hH78 rfl rfl (yv_load T.one3 rfl (fun _ hw => Rd.at (Heap.rdw T.el22_encI hw (n := 0) rfl) (i := (k : Int)) (by omega) (j := 0) rfl)) ?_
        refine ops_y hH78 rfl rfl (yv_assign rfl) (ops_y hH78 rfl rfl (yv_assign rfl) (ops_nil (thn_n (seq ?_))))
        have hkl : k < S.len l i34 := by omega
        have hkc : k < S.per l (((S.mins l).getD i34 0 : Nat) : Int) := hkl
        have hst := S.Mk.step hj2 hm (i := i34) (by omega) hkl hU2
        have hlc : nth (S.circ l (((S.mins l).getD i34 0 : Nat) : Int)) (k : Int) = S.it l k (((S.mins l).getD i34 0 : Nat) : Int) := S.nth_circ hkc
        have hmc : nth (S.circ m (S.X l m i34)) (k : Int) = S.it m k (S.X l m i34) := S.nth_circ (show k < S.per m (S.X l m i34) by omega)
        have hli := hj.it (a := (((S.mins l).getD i34 0 : Nat) : Int)) hmi.1 hmi.2 k
        have hmi2 := hj2.it (a := S.X l m i34) (by omega) (by omega) k
        have hoa := hA2.step hj (by omega) hkl
        have hol := hA2.1.1
        have hul := hU2.1
        have hzu : nth U2 (nth (S.circ m (S.X l m i34)) (k : Int)) = 0 := by rw [hmc]; exact hst.1
        have ho3 : o2.set (nth (S.circ l (((S.mins l).getD i34 0 : Nat) : Int)) (k : Int)).toNat (nth (S.circ m (S.X l m i34)) (k : Int)) = o2.set (S.it l k (S.mn l i34)).toNat (S.it m k (S.X l m i34)) := by rw [hlc, hmc]; rfl
        have hu3 : U2.set (nth (S.circ m (S.X l m i34)) (k : Int)).toNat (nth U2 (nth (S.circ m (S.X l m i34)) (k : Int)) + 1) = U2.set (S.it m k (S.X l m i34)).toNat 1 := by rw [hzu, hmc]; rfl
        refine region_drawY (fun w' => Heap [ow lo73 hi74 3 1 encI u72 (S.circ m (S.X l m i34)), ow lo63 hi64 3 1 encI u62 (S.right m.length), recItem l32 { rc with state := .busy }, bx b42 22 [x35], markItem D33, ow lo39 hi40 3 1 encI x35 (S.circ l (((S.mins l).getD i34 0 : Nat) : Int)), ⟨lo27, hi28, Bx cb30 73 [(.pointer (some ⟨b, 0, none⟩))]⟩, bx b19 22 [v_b6], ow lo_b6 hi_b6 3 1 encI v_b6 U2, bx b9 22 [v_b5], ow lo_b5 hi_b5 3 1 encI v_b5 o2, bx b1 73 [(.pointer (some ⟨b2, 0, none⟩))], base w] w') [7] T.mixed (fun w80 hr81 => ?_)
        have hH82 := hH78.redrawn hr81
        refine any_takesT [2, 5] (by kernel_rfl)  _ _ _ (by kernel_rfl) ?_
        refine qs_y rfl rfl (yv_move rfl) (qs_y rfl rfl (yv_move rfl) (qs_nil ?_))
        refine any_takesY [0, 1] (by kernel_rfl) hH82 _ _ _ (by kernel_rfl) ?_
        refine qs_y rfl rfl (yv_load T.one22 rfl (fun _ hw => Heap.cellw hw (n := 9) rfl rfl)) ?_
        refine qs_y rfl rfl (yv_load T.one22 rfl (fun _ hw => Heap.cellw hw (n := 3) rfl rfl)) ?_
        refine qs_nil ?_
        refine any_takesT [3] (by kernel_rfl)  _ _ _ (by kernel_rfl) ?_
        refine qs_y rfl rfl (yv_index T.sl22 rfl rfl (Heap.rdw T.el22_encI hH82 (n := 5) rfl).is (by omega)) ?_
        refine qs_nil ?_
        refine any_takesY [4] (by kernel_rfl) hH82 _ _ _ (by kernel_rfl) ?_
        refine qs_y rfl rfl (yv_load T.one3 rfl (fun _ hw => Rd.at (Heap.rdw T.el22_encI hw (n := 5) rfl) (i := (k : Int)) (by omega) (j := 0) rfl)) ?_
        refine qs_nil ?_
        refine any_takesT [6] (by kernel_rfl)  _ _ _ (by kernel_rfl) ?_
        refine qs_y rfl rfl (yv_index T.sl22 rfl rfl (Heap.rdw T.el22_encI hH82 (n := 10) rfl).is (by omega)) ?_
        refine qs_nil ?_
        refine any_allY [7] (by kernel_rfl) rfl ?_
        refine ⟨⟨_, rfl, ?_⟩, trivial⟩
        · skip
          refine op_setE (n := 10) (i := nth (S.circ l (((S.mins l).getD i34 0 : Nat) : Int)) (k : Int)) (k := 0) (us := [(.int .i64 (nth (S.circ m (S.X l m i34)) (k : Int)))]) (z := nth (S.circ m (S.X l m i34)) (k : Int)) T.el22_encI rfl rfl hH82 rfl (by omega) T.sz3 rfl rfl rfl (Nat.le_of_ble_eq_true rfl) (fun w83 hH84 => ?_)
          refine ops_nil ?_
          refine ⟨(fun h => by cases h), ?_⟩
          refine any_doneY (by kernel_rfl) ?_
          refine thn_n (region ?_)
          refine ops_y hH84 rfl rfl (yv_load T.one22 rfl (fun _ hw => Heap.cellw hw (n := 7) rfl rfl)) ?_
          refine ops_y hH84 rfl rfl (yv_move rfl) ?_
          refine ops_y hH84 rfl rfl (yv_index T.sl22 rfl rfl (Heap.rdw T.el22_encI hH84 (n := 8) rfl).is (by omega)) ?_
          refine ops_y hH84 rfl rfl (yv_load T.one3 rfl (fun _ hw => Rd.at (Heap.rdw T.el22_encI hw (n := 8) rfl) (i := nth (S.circ m (S.X l m i34)) (k : Int)) (by omega) (j := 0) rfl)) ?_
          refine ops_y hH84 rfl rfl (yv_add rfl rfl (by omega)) ?_
          refine ops_y hH84 rfl rfl (yv_index T.sl22 rfl rfl (Heap.rdw T.el22_encI hH84 (n := 8) rfl).is (by omega)) ?_
          refine op_setE (n := 8) (i := nth (S.circ m (S.X l m i34)) (k : Int)) (k := 0) (us := [(.int .i64 ((nth U2 (nth (S.circ m (S.X l m i34)) (k : Int))) + 1))]) (z := (nth U2 (nth (S.circ m (S.X l m i34)) (k : Int))) + 1) T.el22_encI rfl rfl hH84 rfl (by omega) T.sz3 rfl rfl rfl (Nat.le_of_ble_eq_true rfl) (fun w85 hH86 => ?_)
          refine ops_nil (blk_n (thn_n (region ?_)))
          refine ops_y hH86 rfl rfl (yv_add rfl rfl (by omega)) ?_
          refine ops_y hH86 rfl rfl (yv_move rfl) (ops_nil ?_)
          refine lp_n (k + 1, (o2.set (S.it l k (S.mn l i34)).toNat (S.it m k (S.X l m i34))), (U2.set (S.it m k (S.X l m i34)).toNat 1), v_b5, lo_b5, hi_b5, v_b6, lo_b6, hi_b6) (Sub.cons rfl (Sub.cons rfl (Sub.cons rfl (Sub.cons rfl (Sub.cons rfl (Sub.cons rfl (Sub.cons rfl (Sub.nil _)))))))) ?_ ?_
          · exact ⟨(Heap.recast (n := 8) (Heap.recast (n := 10) hH86 rfl (ho3)) rfl (hu3)), by omega, hoa, hst.2⟩
          · first | (dsimp only; omega) | (show _ < _; omega)
      · skip
        refine cond_f rfl (decide_eq_false hc79) ?_
        refine exit (thn_x (lp_x (blk_here (blk_n ?_))))
        have hH87 := (hH78.sub (List.Sublist.cons _ (List.Sublist.cons _ (List.Sublist.cons_cons _ (List.Sublist.cons _ (List.Sublist.cons_cons _ (List.Sublist.cons _ (List.Sublist.refl _))))))))
        exact ⟨_, ⟨_, ⟨o2, U2, v_b5, lo_b5, hi_b5, v_b6, lo_b6, hi_b6, rfl, (by rw [show k = S.len l i34 by omega] at hA2; exact hA2.done), (by rw [show k = S.len l i34 by omega] at hU2; exact hU2.done hj2 hm (by omega))⟩, rfl⟩, (Heap.recast (n := 4) (Heap.recast (n := 6) hH87 rfl (rfl)) rfl (rfl))⟩
  · skip
    obtain ⟨o, U, v_a, lo_a, hi_a, v_a1, lo_a1, hi_a1, rfl, hA, hU⟩ := hI
    have hH88 := hH38.perm (List.perm_append_comm (l₁ := [_]))
    refine blk_n (thn_n (seq (region ?_)))
    refine ops_y hH88 rfl rfl (yv_load T.one22 rfl (fun _ hw => Heap.cellw hw (n := 3) rfl rfl)) ?_
    refine ops_y hH88 rfl rfl (yv_assign rfl) (ops_nil (thn_n (ret ?_)))
    have hH89 := (hH88.sub (List.Sublist.cons _ (List.Sublist.cons _ (List.Sublist.cons _ (List.Sublist.cons _ (List.Sublist.cons_cons _ (List.Sublist.cons _ (List.Sublist.refl _))))))))
    refine fin_m (H := [ow lo_a hi_a 3 1 encI v_a o]) [D33] (hH89.front (n := 1) rfl) (fun w' hf => (res1 rfl (show RV _ _ _ (.tmp 4) _ from rfl))) (fun w' hf => ?_)
    rw [← S.AlkI.done hj hA]; exact Heap.own hf (n := 0) rfl
  · skip
    exact hI.elim

end Go.Fip

set_option linter.unusedVariables false
set_option linter.unusedSimpArgs false
set_option linter.unusedSectionVars false
set_option linter.unnecessarySimpa false
namespace Go.Fip
open Go.Proofs Go.RowKit

theorem c40 {v u : Value} {l m : List Int} {w : World} (h0 : Rd encI 1 v l w) (h1 : Rd encI 1 u m w) (hn : l.length ≤ 1000000) (hn2 : m.length ≤ 1000000)  :
    Fn Try.prog 40 [v, u].toArray w (fun u w => ∃ q, u = .tuple #[q, .int .i64 (S.alikeR l m).2] ∧ Own 3 1 encI q (S.alikeR l m).1 w) := by
  refine fn_of' (args := [v, u]) Try.func40 rfl (ent Try.func40 (by kernel_rfl) rfl) rfl rfl (fun hH => ?_)
  refine seq (region (ops_y hH rfl rfl (yv_assign rfl) (ops_y hH rfl rfl (yv_assign rfl) (ops_nil (thn_n (seq ?_))))))
  by_cases hc1 : S.two l m = 0
  · skip
    have ht : S.two l m = 0 := ‹_›
    obtain ⟨hc1, hc2, hlm⟩ := S.two_iff.1 ht
    have hj : S.J l := S.check_iff.1 hc1
    have hj2 : S.J m := S.check_iff.1 hc2
    have hl1 := hj.1
    have hl10 := hj.2.1
    refine region (ops_y hH rfl rfl (yv_move rfl) (ops_y hH rfl rfl (yv_move rfl) ?_))
    refine op_fn rfl rfl rfl hH (c91 (h0.now hH (n := 0) rfl) (h1.now hH (n := 0) rfl) (by omega) (by omega) hj hj2 hlm) (fun u4 w2 lo5 hi6 hH3 hv7 => ?_)
    obtain ⟨b8, b9, _, _, hu, -⟩ := hv7
    subst hu
    obtain ⟨r10, r11, hH12⟩ := Heap.fixTwo hH3 (n := 0) rfl
    refine ops_y hH12 rfl rfl (yv_move rfl) (ops_y hH12 rfl rfl (yv_extract rfl rfl) (ops_y hH12 rfl rfl (yv_extract rfl rfl) (ops_y hH12 rfl rfl (yv_extract rfl rfl) (ops_y hH12 rfl rfl (yv_assign rfl) (ops_y hH12 rfl rfl (yv_assign rfl) (ops_y hH12 rfl rfl (yv_assign rfl) (ops_nil (thn_n (seq ?_)))))))))
    refine block (seq (region (ops_y hH12 rfl rfl (yv_move rfl) ?_)))
    refine ops_y hH12 rfl rfl (yv_neq rfl rfl) ?_
    refine ops_y hH12 rfl rfl (yv_assign rfl) (ops_nil (thn_n ?_))
    refine cond_f rfl rfl ?_
    refine seq ?_
    have hcl1 := S.counts_length (l := l)
    have hcl2 := S.counts_length (l := m)
    refine region (ops_y hH12 rfl rfl (yv_move rfl) ?_)
    refine op_fnV rfl rfl rfl hH12 (c93 (((show TwoAt 89 b8 b9 r10 r11 l m _ from hH12.get (n := 0) rfl).1)) ((show TwoAt 89 b8 b9 r10 r11 l m _ from hH12.get (n := 0) rfl).2.1) hj) (fun w13 hH14 => ?_)
    refine ops_y hH14 rfl rfl (yv_move rfl) ?_
    refine op_fnV rfl rfl rfl hH14 (c93 (((show TwoAt 89 b8 b9 r10 r11 l m _ from hH14.get (n := 0) rfl).2.2.1)) ((show TwoAt 89 b8 b9 r10 r11 l m _ from hH14.get (n := 0) rfl).2.2.2) hj2) (fun w15 hH16 => ?_)
    refine ops_y hH16 rfl rfl (yv_neA (a := (S.counts l)) (b := (S.counts m)) T.eqi100 rfl rfl (by omega) (by omega)) ?_
    refine ops_y hH16 rfl rfl (yv_assign rfl) (ops_nil (thn_n ?_))
    by_cases hc17 : (S.counts l) = (S.counts m)
    · skip
      have hceq : S.counts l = S.counts m := ‹_›
      have hmm := (S.counts_iff hj hj2).1 hceq
      refine cond_f rfl (not_decide_n hc17) ?_
      refine skip (blk_n (thn_n (seq (region (ops_y hH16 rfl rfl (yv_move rfl) (ops_y hH16 rfl rfl (yv_move rfl) ?_))))))
      refine op_fn rfl rfl rfl hH16 (c94 (((show TwoAt 89 b8 b9 r10 r11 l m _ from hH16.get (n := 0) rfl).1)) ((show TwoAt 89 b8 b9 r10 r11 l m _ from hH16.get (n := 0) rfl).2.1) hj (((show TwoAt 89 b8 b9 r10 r11 l m _ from hH16.get (n := 0) rfl).2.2.1)) ((show TwoAt 89 b8 b9 r10 r11 l m _ from hH16.get (n := 0) rfl).2.2.2) hj2 hlm hmm) (fun u20 w18 lo21 hi22 hH19 hv23 => ?_)
      have hH24 := Heap.toOw hH19 (n := 0) rfl
      refine ops_y hH24 rfl rfl (yv_assign rfl) (ops_y hH24 rfl rfl (yv_assign rfl) (ops_nil (thn_n (ret ?_))))
      have hH25 := (hH24.sub (List.Sublist.cons_cons _ (List.Sublist.cons _ (List.Sublist.refl _))))
      refine fin (hH25.front (n := 1) rfl) (fun w' hf => (res2 rfl (show RV _ _ _ (.tmp 4) _ from rfl) (show RV _ _ _ (.tmp 5) _ from rfl))) (fun w' hf => ?_)
      first | (rw [S.al1 htn]; exact ⟨_, rfl, own_nil⟩) | (rw [S.al2 ht hcne]; exact ⟨_, rfl, own_nil⟩) | (rw [S.al3 ht hceq]; exact ⟨_, rfl, Heap.own hf (n := 0) rfl⟩)
    · skip
      have hcne : ¬ S.counts l = S.counts m := ‹_›
      refine cond_t rfl (not_decide_t hc17) ?_
      refine seq (region (ops_y hH16 rfl rfl (yv_assign rfl) (ops_y hH16 rfl rfl (yv_assign rfl) (ops_nil (thn_n (ret (blk_r (thn_r ?_))))))))
      have hH26 := (hH16.sub (List.Sublist.cons _ (List.Sublist.refl _)))
      refine fin hH26 (fun w' hf => (res2 rfl (show RV _ _ _ (.tmp 4) _ from rfl) (show RV _ _ _ (.tmp 5) _ from rfl))) (fun w' hf => ?_)
      first | (rw [S.al1 htn]; exact ⟨_, rfl, own_nil⟩) | (rw [S.al2 ht hcne]; exact ⟨_, rfl, own_nil⟩) | (rw [S.al3 ht hceq]; exact ⟨_, rfl, Heap.own hf (n := 0) rfl⟩)
  · skip
    have htn : ¬ S.two l m = 0 := ‹_›
    refine region (ops_y hH rfl rfl (yv_move rfl) (ops_y hH rfl rfl (yv_move rfl) ?_))
    refine op_fnV rfl rfl rfl hH (c91n (h0.now hH (n := 0) rfl) (h1.now hH (n := 0) rfl) (by omega) (by omega) htn) (fun w27 hH28 => ?_)
    refine ops_y hH28 rfl rfl (yv_move rfl) (ops_y hH28 rfl rfl (yv_extract rfl rfl) (ops_y hH28 rfl rfl (yv_extract rfl rfl) (ops_y hH28 rfl rfl (yv_extract rfl rfl) (ops_y hH28 rfl rfl (yv_assign rfl) (ops_y hH28 rfl rfl (yv_assign rfl) (ops_y hH28 rfl rfl (yv_assign rfl) (ops_nil (thn_n (seq ?_)))))))))
    refine block (seq (region (ops_y hH28 rfl rfl (yv_move rfl) ?_)))
    refine ops_y hH28 rfl rfl (yv_neq rfl rfl) ?_
    refine ops_y hH28 rfl rfl (yv_assign rfl) (ops_nil (thn_n ?_))
    have hc29 : ¬ ((S.two l m) = 0) := htn
    refine cond_t rfl (not_decide_t hc29) ?_
    refine seq (region (ops_y hH28 rfl rfl (yv_move rfl) (ops_y hH28 rfl rfl (yv_assign rfl) (ops_y hH28 rfl rfl (yv_assign rfl) (ops_nil (thn_n (ret (blk_r (thn_r ?_)))))))))
    refine fin hH28 (fun w' hf => (res2 rfl (show RV _ _ _ (.tmp 4) _ from rfl) (show RV _ _ _ (.tmp 5) _ from rfl))) (fun w' hf => ?_)
    first | (rw [S.al1 htn]; exact ⟨_, rfl, own_nil⟩) | (rw [S.al2 ht hcne]; exact ⟨_, rfl, own_nil⟩) | (rw [S.al3 ht hceq]; exact ⟨_, rfl, Heap.own hf (n := 0) rfl⟩)

theorem c41 {v u : Value} {l m : List Int} {w : World} (h0 : Rd encI 1 v l w) (h1 : Rd encI 1 u m w) (hn : l.length ≤ 1000000) (hn2 : m.length ≤ 1000000)  :
    Fn Try.prog 41 [v, u].toArray w (fun u w => ∃ q, u = .tuple #[q, .int .i64 (S.alikeR l m).2] ∧ Own 3 1 encI q (S.alikeR l m).1 w) := by
  refine fn_of' (args := [v, u]) Try.func41 rfl (ent Try.func41 (by kernel_rfl) rfl) rfl rfl (fun hH => ?_)
  refine seq (region (ops_y hH rfl rfl (yv_assign rfl) (ops_y hH rfl rfl (yv_assign rfl) (ops_nil (thn_n (seq (seq ?_)))))))
  by_cases hc1 : S.two l m = 0
  · skip
    have ht : S.two l m = 0 := ‹_›
    obtain ⟨hc1, hc2, hlm⟩ := S.two_iff.1 ht
    have hj : S.J l := S.check_iff.1 hc1
    have hj2 : S.J m := S.check_iff.1 hc2
    have hl1 := hj.1
    have hl10 := hj.2.1
    have hm10 := hj2.2.1
    have hcy := hj.cyc_le
    refine region (ops_y hH rfl rfl (yv_move rfl) (ops_y hH rfl rfl (yv_move rfl) ?_))
    refine op_fnV rfl rfl rfl hH (c92 (h0.now hH (n := 0) rfl) (h1.now hH (n := 0) rfl) (by omega) (by omega)) (fun w2 hH3 => ?_)
    refine ops_y hH3 rfl rfl (yv_neq rfl rfl) ?_
    refine ops_nil (thn_n ?_)
    have hc4 : ¬ (¬ ((S.two l m) = 0)) := by first | exact fun h => h rfl | exact fun h => h ht
    refine cond_f rfl (not_decide_f hc4) ?_
    refine skip (thn_n (seq (seq (region (ops_y hH3 rfl rfl (yv_assign rfl) (ops_nil (thn_n (block ?_))))))))
    refine loop (S := Nat) (fun k => [(6, (.int .i64 (k : Int))), (0, v), (1, u)]) (fun k w1 => Heap [base w] w1 ∧ 1 ≤ k ∧ k ≤ l.length + 1 ∧ ∀ p : Nat, p < k → 1 ≤ p → S.many l p = S.many m p) (fun k => l.length + 1 - k) (1) (Sub.cons rfl (Sub.cons rfl (Sub.cons rfl (Sub.nil _)))) ?_ ?_
    · exact ⟨hH3, by omega, by omega, (fun p hp1 hp2 => absurd hp1 (by omega))⟩
    · rintro k w5 ⟨hH6, hk1, hk, hall⟩
      show Holds _ _ _ _ _ [(6, (.int .i64 (k : Int))), (0, v), (1, u)] _ _
      refine seq (seq (region (ops_y hH6 rfl rfl (yv_move rfl) (ops_y hH6 rfl rfl (yv_move rfl) ?_))))
      refine ops_y hH6 rfl rfl (yv_len T.sl22 rfl (h0.now hH6 (n := 0) rfl).is) ?_
      refine ops_y hH6 rfl rfl (yv_leq rfl rfl) ?_
      refine ops_nil (thn_n ?_)
      by_cases hc7 : (k : Int) ≤ (l.length : Int)
      · skip
        refine cond_t rfl (decide_eq_true hc7) ?_
        refine skip (thn_n (seq (block (seq ?_))))
        have hkk : ((k : Int)).toNat = k := rfl
        refine region (ops_y hH6 rfl rfl (yv_move rfl) (ops_y hH6 rfl rfl (yv_move rfl) ?_))
        refine op_fnV rfl rfl rfl hH6 (c65l (h0.now hH6 (n := 0) rfl) hj (by omega)) (fun w8 hH9 => ?_)
        refine ops_y hH9 rfl rfl (yv_move rfl) (ops_y hH9 rfl rfl (yv_move rfl) ?_)
        refine op_fnV rfl rfl rfl hH9 (c65l (h1.now hH9 (n := 0) rfl) hj2 (by omega)) (fun w10 hH11 => ?_)
        refine ops_y hH11 rfl rfl (yv_neq rfl rfl) ?_
        refine ops_nil (thn_n ?_)
        by_cases hc12 : (S.many l (k : Int).toNat : Int) = (S.many m (k : Int).toNat : Int)
        · skip
          have hmk : S.many l k = S.many m k := by rw [hkk] at *; omega
          refine cond_f rfl (not_decide_n hc12) ?_
          refine skip (blk_n (thn_n (region (ops_y hH11 rfl rfl (yv_move rfl) ?_))))
          refine ops_y hH11 rfl rfl (yv_add rfl rfl (by omega)) ?_
          refine ops_y hH11 rfl rfl (yv_assign rfl) (ops_nil ?_)
          refine lp_n (k + 1) (Sub.cons rfl (Sub.cons rfl (Sub.cons rfl (Sub.nil _)))) ?_ ?_
          · exact ⟨hH11, by omega, by omega, S.all_snoc hall (fun _ => hmk)⟩
          · first | (dsimp only; omega) | (show _ < _; omega)
        · skip
          have hcne : ¬ S.counts l = S.counts m := fun e => absurd ((S.counts_iff hj hj2).1 e k) (by rw [hkk] at *; omega)
          refine cond_t rfl (not_decide_t hc12) ?_
          refine seq (region (ops_y hH11 rfl rfl (yv_assign rfl) (ops_y hH11 rfl rfl (yv_assign rfl) (ops_nil (thn_n (ret (blk_r (thn_r (lp_r ?_)))))))))
          refine blk_r (thn_r ?_)
          refine fin hH11 (fun w' hf => (res2 rfl (show RV _ _ _ (.tmp 4) _ from rfl) (show RV _ _ _ (.tmp 5) _ from rfl))) (fun w' hf => ?_)
          first | (rw [S.al1 htn]; exact ⟨_, rfl, own_nil⟩) | (rw [S.al2 ht hcne]; exact ⟨_, rfl, own_nil⟩) | (have hk2 : k = l.length := (by omega); subst hk2; rw [S.al3 ht hceq, ← hO.1.1.done hj]; exact ⟨_, rfl, Heap.own hf (n := 0) rfl⟩)
      · skip
        have hceq := S.counts_upto hj hj2 hlm (fun p hp h1 => hall p (by omega) h1)
        have hmm := (S.counts_iff hj hj2).1 hceq
        refine cond_f rfl (decide_eq_false hc7) ?_
        refine exit (thn_x (lp_x (blk_here (thn_n (seq (region (ops_y hH6 rfl rfl (yv_move rfl) ?_)))))))
        refine ops_y hH6 rfl rfl (yv_len T.sl22 rfl (h0.now hH6 (n := 0) rfl).is) ?_
        refine op_make T.el22_encI (0 : Int) T.z22_encI rfl rfl rfl hH6 (by omega) (by omega) (fun u13 lo15 hi16 w14 hH17 => ?_)
        refine ops_y hH17 rfl rfl (yv_assign rfl) (ops_nil (thn_n (seq (region (ops_y hH17 rfl rfl (yv_move rfl) ?_)))))
        refine op_fn rfl rfl rfl hH17 (c60 (h0.now hH17 (n := 1) rfl) (by omega)) (fun u20 w18 lo21 hi22 hH19 hv23 => ?_)
        have hH24 := Heap.toOw hH19 (n := 0) rfl
        refine ops_y hH24 rfl rfl (yv_assign rfl) (ops_nil (thn_n (seq (seq (region (ops_y hH24 rfl rfl (yv_assign rfl) (ops_nil (thn_n (block ?_)))))))))
        refine loop (S := Nat × List Int × List Int × Value × Nat × Nat × Value × Nat × Nat) (fun (k, o, F, v_7, lo_7, hi_7, v_8, lo_8, hi_8) => [(9, (.int .i64 (k : Int))), (7, v_7), (8, v_8), (0, v), (1, u)]) (fun (k, o, F, v_7, lo_7, hi_7, v_8, lo_8, hi_8) w1 => Heap [ow lo_8 hi_8 3 1 encI v_8 F, ow lo_7 hi_7 3 1 encI v_7 o, base w] w1 ∧ k ≤ l.length ∧ (o.length = l.length ∧ F.length = l.length) ∧ (∀ i, i < k → nth o (i : Int) = -1) ∧ ∀ i, i < k → nth F (i : Int) = 1) (fun (k, o, F, v_7, lo_7, hi_7, v_8, lo_8, hi_8) => l.length - k) (0, (List.replicate ((l.length : Int)).toNat (0 : Int)), l, u13, lo15, hi16, u20, lo21, hi22) (Sub.cons rfl (Sub.cons rfl (Sub.cons rfl (Sub.cons rfl (Sub.cons rfl (Sub.nil _)))))) ?_ ?_
        · exact ⟨hH24, by omega, ⟨by simp, rfl⟩, S.all_zero, S.all_zero⟩
        · rintro ⟨k, o, F, v_7, lo_7, hi_7, v_8, lo_8, hi_8⟩ w25 ⟨hH26, hk, ⟨hol, hfl⟩, ho, hF⟩
          show Holds _ _ _ _ _ [(9, (.int .i64 (k : Int))), (7, v_7), (8, v_8), (0, v), (1, u)] _ _
          refine seq (seq (region (ops_y hH26 rfl rfl (yv_move rfl) (ops_y hH26 rfl rfl (yv_move rfl) ?_))))
          refine ops_y hH26 rfl rfl (yv_len T.sl22 rfl (h0.now hH26 (n := 2) rfl).is) ?_
          refine ops_y hH26 rfl rfl (yv_lss rfl rfl) ?_
          refine ops_nil (thn_n ?_)
          by_cases hc27 : (k : Int) < (l.length : Int)
          · skip
            refine cond_t rfl (decide_eq_true hc27) ?_
            refine skip (thn_n (seq (block (region (ops_y hH26 rfl rfl (yv_move rfl) (ops_y hH26 rfl rfl (yv_move rfl) (ops_y hH26 rfl rfl (yv_move rfl) (ops_y hH26 rfl rfl (yv_move rfl) ?_))))))))
            refine ops_y hH26 rfl rfl (yv_index T.sl22 rfl rfl (Heap.rdw T.el22_encI hH26 (n := 1) rfl).is (by omega)) ?_
            refine op_setE (n := 1) (i := (k : Int)) (k := 0) (us := [(.int .i64 (-1))]) (z := (-1)) T.el22_encI rfl rfl hH26 rfl (by omega) T.sz3 rfl rfl rfl (Nat.le_of_ble_eq_true rfl) (fun w28 hH29 => ?_)
            refine ops_y hH29 rfl rfl (yv_index T.sl22 rfl rfl (Heap.rdw T.el22_encI hH29 (n := 0) rfl).is (by omega)) ?_
            refine op_setE (n := 0) (i := (k : Int)) (k := 0) (us := [(.int .i64 1)]) (z := 1) T.el22_encI rfl rfl hH29 rfl (by omega) T.sz3 rfl rfl rfl (Nat.le_of_ble_eq_true rfl) (fun w30 hH31 => ?_)
            refine ops_nil (blk_n (thn_n (region (ops_y hH31 rfl rfl (yv_move rfl) ?_))))
            refine ops_y hH31 rfl rfl (yv_add rfl rfl (by omega)) ?_
            refine ops_y hH31 rfl rfl (yv_assign rfl) (ops_nil ?_)
            refine lp_n (k + 1, (o.set ((k : Int)).toNat (-1)), (F.set ((k : Int)).toNat 1), v_7, lo_7, hi_7, v_8, lo_8, hi_8) (Sub.cons rfl (Sub.cons rfl (Sub.cons rfl (Sub.cons rfl (Sub.cons rfl (Sub.nil _)))))) ?_ ?_
            · exact ⟨hH31, by omega, ⟨(List.length_set).trans hol, (List.length_set).trans hfl⟩, S.set_all (by omega) ho, S.set_all (by omega) hF⟩
            · first | (dsimp only; omega) | (show _ < _; omega)
          · skip
            refine cond_f rfl (decide_eq_false hc27) ?_
            refine exit (thn_x (lp_x (blk_here (thn_n (seq (seq (region (ops_y hH26 rfl rfl (yv_assign rfl) (ops_nil ?_)))))))))
            refine thn_n (block ?_)
            refine loop (S := Nat × List Int × List Int × Value × Nat × Nat × Value × Nat × Nat) (fun (k, o, F, v_7, lo_7, hi_7, v_8, lo_8, hi_8) => [(10, (.int .i64 (k : Int))), (7, v_7), (8, v_8), (0, v), (1, u)]) (fun (k, o, F, v_7, lo_7, hi_7, v_8, lo_8, hi_8) w1 => Heap [ow lo_8 hi_8 3 1 encI v_8 F, ow lo_7 hi_7 3 1 encI v_7 o, base w] w1 ∧ k ≤ l.length ∧ S.OutJ l m (S.minsTo l k) 0 o ∧ S.Mk l m 1 0 (S.minsTo l k) 0 F) (fun (k, o, F, v_7, lo_7, hi_7, v_8, lo_8, hi_8) => l.length - k) (0, o, F, v_7, lo_7, hi_7, v_8, lo_8, hi_8) (Sub.cons rfl (Sub.cons rfl (Sub.cons rfl (Sub.cons rfl (Sub.cons rfl (Sub.nil _)))))) ?_ ?_
            · exact ⟨hH26, by omega, S.OutJ.start hol (fun i hi => ho i (by omega)), S.Mk.start (by omega) (fun i hi => hF i (by omega))⟩
            · rintro ⟨k, o, F, v_7, lo_7, hi_7, v_8, lo_8, hi_8⟩ w32 ⟨hH33, hk, hO, hF⟩
              show Holds _ _ _ _ _ [(10, (.int .i64 (k : Int))), (7, v_7), (8, v_8), (0, v), (1, u)] _ _
              have hol := hO.1.1.1
              have hfl := hF.1
              refine seq (seq (region (ops_y hH33 rfl rfl (yv_move rfl) (ops_y hH33 rfl rfl (yv_move rfl) ?_))))
              refine ops_y hH33 rfl rfl (yv_len T.sl22 rfl (h0.now hH33 (n := 2) rfl).is) ?_
              refine ops_y hH33 rfl rfl (yv_lss rfl rfl) ?_
              refine ops_nil (thn_n ?_)
              by_cases hc34 : (k : Int) < (l.length : Int)
              · skip
                refine cond_t rfl (decide_eq_true hc34) ?_
                refine skip (thn_n (seq (block (seq (seq ?_)))))
                by_cases hc35 : S.isMin l (k : Int) = true
                · skip
                  have hmin : S.isMin l (k : Int) = true := ‹_›
                  have hJ := S.minsTo_lt (by omega) hmin
                  have hmnk := S.mn_minsTo (by omega) hmin
                  have hneg := hO.neg hj (by omega) hmin
                  obtain ⟨hX0, hX1, hXp, -, -⟩ := S.X_spec hj2 hmm hJ
                  have hFX := hF.at_X hj2 hmm hJ (by decide)
                  have hlen : S.len l (S.minsTo l k) = S.per l (k : Int) := congrArg (S.per l) hmnk
                  have hpkl := (hj.per_at (a := (k : Int)) (by omega) (by omega)).2
                  refine region (ops_y hH33 rfl rfl (yv_move rfl) (ops_y hH33 rfl rfl (yv_move rfl) ?_))
                  refine ops_y hH33 rfl rfl (yv_index T.sl22 rfl rfl (Heap.rdw T.el22_encI hH33 (n := 1) rfl).is (by omega)) ?_
                  refine ops_y hH33 rfl rfl (yv_load T.one3 rfl (fun _ hw => Rd.at (Heap.rdw T.el22_encI hw (n := 1) rfl) (i := (k : Int)) (by omega) (j := 0) rfl)) ?_
                  refine ops_y hH33 rfl rfl (yv_geq rfl rfl) ?_
                  refine ops_nil (thn_n ?_)
                  have hc36 : ¬ (0 ≤ (nth o (k : Int))) := by omega
                  refine cond_f rfl (decide_eq_false hc36) ?_
                  refine skip (thn_n (seq (region (ops_y hH33 rfl rfl (yv_assign rfl) (ops_nil (thn_n (seq (block ?_))))))))
                  refine loop (S := Nat) (fun x => [(11, (.int .i64 (x : Int))), (0, v), (1, u), (7, v_7), (8, v_8), (10, (.int .i64 (k : Int)))]) (fun x w1 => Heap [ow lo_8 hi_8 3 1 encI v_8 F, ow lo_7 hi_7 3 1 encI v_7 o, base w] w1 ∧ (x : Int) ≤ S.X l m (S.minsTo l k)) (fun x => ((S.X l m (S.minsTo l k)) - (x : Int)).toNat) (0) (Sub.cons rfl (Sub.cons rfl (Sub.cons rfl (Sub.cons rfl (Sub.cons rfl (Sub.cons rfl (Sub.nil _))))))) ?_ ?_
                  · exact ⟨hH33, hX0⟩
                  · rintro x w37 ⟨hH38, hx⟩
                    show Holds _ _ _ _ _ [(11, (.int .i64 (x : Int))), (0, v), (1, u), (7, v_7), (8, v_8), (10, (.int .i64 (k : Int)))] _ _
                    refine seq (seq ?_)
                    have hfv := hF.val (y := (x : Int)) (by omega) (by omega)
                    have hgx := hF.good (y := (x : Int)) (by decide) (by omega) (by omega)
                    have hpx := S.circ_length (l := m) (a := (x : Int))
                    have hpk := S.circ_length (l := l) (a := (k : Int))
                    have hpxl := (hj2.per_at (a := (x : Int)) (by omega) (by omega)).2
                    refine region (ops_y hH38 rfl rfl (yv_move rfl) (ops_y hH38 rfl rfl (yv_move rfl) ?_))
                    refine ops_y hH38 rfl rfl (yv_index T.sl22 rfl rfl (Heap.rdw T.el22_encI hH38 (n := 0) rfl).is (by omega)) ?_
                    refine ops_y hH38 rfl rfl (yv_load T.one3 rfl (fun _ hw => Rd.at (Heap.rdw T.el22_encI hw (n := 0) rfl) (i := (x : Int)) (by omega) (j := 0) rfl)) ?_
                    refine ops_y hH38 rfl rfl (yv_eql rfl rfl) ?_
                    refine ops_y hH38 rfl rfl (yv_move rfl) ?_
                    by_cases hc39 : (nth F (x : Int)) = 0
                    · skip
                      refine guard_no rfl rfl (decide_eq_true hc39) rfl ?_
                      refine guard_no rfl rfl (decide_eq_true hc39) rfl ?_
                      refine guard_no rfl rfl (decide_eq_true hc39) rfl ?_
                      refine guard_no rfl rfl (decide_eq_true hc39) rfl ?_
                      refine guard_no rfl rfl (decide_eq_true hc39) rfl ?_
                      refine guard_no rfl rfl (decide_eq_true hc39) rfl ?_
                      refine guard_no rfl rfl (decide_eq_true hc39) rfl ?_
                      refine guard_no rfl rfl (decide_eq_true hc39) rfl ?_
                      refine guard_no rfl rfl (decide_eq_true hc39) rfl ?_
                      refine ops_y hH38 rfl rfl (yv_pick_t rfl (decide_eq_true hc39) rfl) ?_
                      refine ops_nil (thn_n ?_)
                      refine cond_t rfl rfl ?_
                      refine skip (thn_n (block ?_))
                      have hxne : ¬ (x : Int) = S.X l m (S.minsTo l k) := by intro e; first | (rw [← e] at hFX; omega) | (rw [← e] at hXp; omega)
                      refine region (ops_y hH38 rfl rfl (yv_move rfl) ?_)
                      refine ops_y hH38 rfl rfl (yv_add rfl rfl (by omega)) ?_
                      refine ops_y hH38 rfl rfl (yv_assign rfl) (ops_nil (blk_n ?_))
                      refine lp_n (x + 1) (Sub.cons rfl (Sub.cons rfl (Sub.cons rfl (Sub.cons rfl (Sub.cons rfl (Sub.cons rfl (Sub.nil _))))))) ?_ ?_
                      · exact ⟨hH38, by omega⟩
                      · first | (dsimp only; omega) | (show _ < _; omega)
                    · skip
                      refine guard_yes rfl rfl (decide_eq_false hc39) ?_
                      refine ops_y hH38 rfl rfl (yv_move rfl) ?_
                      refine guard_yes rfl rfl (decide_eq_false hc39) ?_
                      refine ops_y hH38 rfl rfl (yv_move rfl) ?_
                      refine guard_yes rfl rfl (decide_eq_false hc39) ?_
                      refine op_fn rfl rfl rfl hH38 (c95 (h1.now hH38 (n := 2) rfl) hj2 (by omega) (by omega)) (fun u42 w40 lo43 hi44 hH41 hv45 => ?_)
                      have hH46 := Heap.toOw hH41 (n := 0) rfl
                      refine guard_yes rfl rfl (decide_eq_false hc39) ?_
                      refine ops_y hH46 rfl rfl (yv_len T.sl22 rfl (Heap.rdw T.el22_encI hH46 (n := 0) rfl).is) ?_
                      refine guard_yes rfl rfl (decide_eq_false hc39) ?_
                      refine ops_y hH46 rfl rfl (yv_move rfl) ?_
                      refine guard_yes rfl rfl (decide_eq_false hc39) ?_
                      refine ops_y hH46 rfl rfl (yv_move rfl) ?_
                      refine guard_yes rfl rfl (decide_eq_false hc39) ?_
                      refine op_fn rfl rfl rfl hH46 (c95 (h0.now hH46 (n := 3) rfl) hj (by omega) (by omega)) (fun u49 w47 lo50 hi51 hH48 hv52 => ?_)
                      have hH53 := Heap.toOw hH48 (n := 0) rfl
                      refine guard_yes rfl rfl (decide_eq_false hc39) ?_
                      refine ops_y hH53 rfl rfl (yv_len T.sl22 rfl (Heap.rdw T.el22_encI hH53 (n := 0) rfl).is) ?_
                      refine guard_yes rfl rfl (decide_eq_false hc39) ?_
                      refine ops_y hH53 rfl rfl (yv_neq rfl rfl) ?_
                      refine ops_y hH53 rfl rfl (yv_pick_f rfl (decide_eq_false hc39) rfl) ?_
                      refine ops_nil (thn_n ?_)
                      by_cases hc54 : ((S.circ m (x : Int)).length : Int) = ((S.circ l (k : Int)).length : Int)
                      · skip
                        refine cond_f rfl (not_decide_n hc54) ?_
                        refine exit (thn_x (lp_x (blk_here (thn_n (seq ?_)))))
                        have hxX := S.X_le hj2 hmm hJ (by omega) hx (hgx.1 ⟨by omega, by omega⟩)
                        refine region (ops_y hH53 rfl rfl (yv_move rfl) (ops_y hH53 rfl rfl (yv_move rfl) ?_))
                        refine op_fn rfl rfl rfl hH53 (c95 (h0.now hH53 (n := 4) rfl) hj (by omega) (by omega)) (fun u57 w55 lo58 hi59 hH56 hv60 => ?_)
                        have hH61 := Heap.toOw hH56 (n := 0) rfl
                        refine ops_y hH61 rfl rfl (yv_move rfl) (ops_y hH61 rfl rfl (yv_move rfl) ?_)
                        refine op_fn rfl rfl rfl hH61 (c95 (h1.now hH61 (n := 5) rfl) hj2 (by omega) (by omega)) (fun u64 w62 lo65 hi66 hH63 hv67 => ?_)
                        have hH68 := Heap.toOw hH63 (n := 0) rfl
                        refine ops_y hH68 rfl rfl (yv_assign rfl) (ops_y hH68 rfl rfl (yv_assign rfl) (ops_nil (thn_n (seq (region (ops_y hH68 rfl rfl (yv_assign rfl) (ops_nil (thn_n (block ?_)))))))))
                        refine loop (S := Nat × List Int × List Int × Value × Nat × Nat × Value × Nat × Nat) (fun (q, o2, F2, v_7, lo_7, hi_7, v_8, lo_8, hi_8) => [(14, (.int .i64 (q : Int))), (7, v_7), (8, v_8), (0, v), (1, u), (10, (.int .i64 (k : Int))), (12, u57), (13, u64)]) (fun (q, o2, F2, v_7, lo_7, hi_7, v_8, lo_8, hi_8) w1 => Heap [ow lo65 hi66 3 1 encI u64 (S.circ m (x : Int)), ow lo58 hi59 3 1 encI u57 (S.circ l (k : Int)), ow lo50 hi51 3 1 encI u49 (S.circ l (k : Int)), ow lo43 hi44 3 1 encI u42 (S.circ m (x : Int)), ow lo_8 hi_8 3 1 encI v_8 F2, ow lo_7 hi_7 3 1 encI v_7 o2, base w] w1 ∧ q ≤ S.len l (S.minsTo l k) ∧ S.OutJ l m (S.minsTo l k) q o2 ∧ S.Mk l m 1 0 (S.minsTo l k) q F2) (fun (q, o2, F2, v_7, lo_7, hi_7, v_8, lo_8, hi_8) => S.len l (S.minsTo l k) - q) (0, o, F, v_7, lo_7, hi_7, v_8, lo_8, hi_8) (Sub.cons rfl (Sub.cons rfl (Sub.cons rfl (Sub.cons rfl (Sub.cons rfl (Sub.cons rfl (Sub.cons rfl (Sub.cons rfl (Sub.nil _))))))))) ?_ ?_
                        · exact ⟨hH68, Nat.zero_le _, hO, hF⟩
                        · rintro ⟨q, o2, F2, v_7, lo_7, hi_7, v_8, lo_8, hi_8⟩ w69 ⟨hH70, hq, hO2, hF2⟩
                          show Holds _ _ _ _ _ [(14, (.int .i64 (q : Int))), (7, v_7), (8, v_8), (0, v), (1, u), (10, (.int .i64 (k : Int))), (12, u57), (13, u64)] _ _
                          have hol2 := hO2.1.1.1
                          have hfl2 := hF2.1
                          have hclk : (S.circ l (k : Int)).length = S.per l (k : Int) := S.circ_length
                          have hcmx : (S.circ m (x : Int)).length = S.per m (x : Int) := S.circ_length
                          have hpe : S.per m (x : Int) = S.len l (S.minsTo l k) := by rw [hxX]; exact hXp
                          refine seq (seq (region (ops_y hH70 rfl rfl (yv_move rfl) (ops_y hH70 rfl rfl (yv_move rfl) ?_))))
                          refine ops_y hH70 rfl rfl (yv_len T.sl22 rfl (Heap.rdw T.el22_encI hH70 (n := 1) rfl).is) ?_
                          refine ops_y hH70 rfl rfl (yv_lss rfl rfl) ?_
                          refine ops_nil (thn_n ?_)
                          by_cases hc71 : (q : Int) < ((S.circ l (k : Int)).length : Int)
                          · skip
                            refine cond_t rfl (decide_eq_true hc71) ?_
                            refine skip (thn_n (seq (block (seq ?_))))
                            have hql : q < S.len l (S.minsTo l k) := by omega
                            have hst := hF2.step hj2 hmm hJ hql
                            have hoa := hO2.step hj hJ hql
                            have hlc : nth (S.circ l (k : Int)) (q : Int) = S.it l q (k : Int) := S.nth_circ (by omega)
                            have hmc : nth (S.circ m (x : Int)) (q : Int) = S.it m q (x : Int) := S.nth_circ (by omega)
                            have hli := hj.it (a := (k : Int)) (by omega) (by omega) q
                            have hmi2 := hj2.it (a := (x : Int)) (by omega) (by omega) q
                            have ho3 : o2.set (nth (S.circ l (k : Int)) (q : Int)).toNat (nth (S.circ m (x : Int)) (q : Int)) = o2.set (S.it l q (S.mn l (S.minsTo l k))).toNat (S.it m q (S.X l m (S.minsTo l k))) := by rw [hlc, hmc, hxX, hmnk]
                            have hf3 : F2.set (nth (S.circ m (x : Int)) (q : Int)).toNat 0 = F2.set (S.it m q (S.X l m (S.minsTo l k))).toNat 0 := by rw [hmc, hxX]
                            refine region_drawY (fun w' => Heap [ow lo65 hi66 3 1 encI u64 (S.circ m (x : Int)), ow lo58 hi59 3 1 encI u57 (S.circ l (k : Int)), ow lo50 hi51 3 1 encI u49 (S.circ l (k : Int)), ow lo43 hi44 3 1 encI u42 (S.circ m (x : Int)), ow lo_8 hi_8 3 1 encI v_8 F2, ow lo_7 hi_7 3 1 encI v_7 o2, base w] w') [10] T.mixed (fun w72 hr73 => ?_)
                            have hH74 := hH70.redrawn hr73
                            refine any_takesT [0, 1, 2, 3, 5, 6, 7] (by kernel_rfl)  _ _ _ (by kernel_rfl) ?_
                            refine qs_y rfl rfl (yv_move rfl) (qs_y rfl rfl (yv_move rfl) (qs_y rfl rfl (yv_move rfl) ?_))
                            refine qs_y rfl rfl (yv_index T.sl22 rfl rfl (Heap.rdw T.el22_encI hH74 (n := 1) rfl).is (by omega)) ?_
                            refine qs_y rfl rfl (yv_move rfl) (qs_y rfl rfl (yv_move rfl) ?_)
                            refine qs_y rfl rfl (yv_index T.sl22 rfl rfl (Heap.rdw T.el22_encI hH74 (n := 0) rfl).is (by omega)) ?_
                            refine qs_nil ?_
                            refine any_takesY [4, 8] (by kernel_rfl) hH74 _ _ _ (by kernel_rfl) ?_
                            refine qs_y rfl rfl (yv_load T.one3 rfl (fun _ hw => Rd.at (Heap.rdw T.el22_encI hw (n := 1) rfl) (i := (q : Int)) (by omega) (j := 0) rfl)) ?_
                            refine qs_y rfl rfl (yv_load T.one3 rfl (fun _ hw => Rd.at (Heap.rdw T.el22_encI hw (n := 0) rfl) (i := (q : Int)) (by omega) (j := 0) rfl)) ?_
                            refine qs_nil ?_
                            refine any_takesT [9] (by kernel_rfl)  _ _ _ (by kernel_rfl) ?_
                            refine qs_y rfl rfl (yv_index T.sl22 rfl rfl (Heap.rdw T.el22_encI hH74 (n := 5) rfl).is (by omega)) ?_
                            refine qs_nil ?_
                            refine any_allY [10] (by kernel_rfl) rfl ?_
                            refine ⟨⟨_, rfl, ?_⟩, trivial⟩
                            · skip
                              refine op_setE (n := 5) (i := nth (S.circ l (k : Int)) (q : Int)) (k := 0) (us := [(.int .i64 (nth (S.circ m (x : Int)) (q : Int)))]) (z := nth (S.circ m (x : Int)) (q : Int)) T.el22_encI rfl rfl hH74 rfl (by omega) T.sz3 rfl rfl rfl (Nat.le_of_ble_eq_true rfl) (fun w75 hH76 => ?_)
                              refine ops_nil ?_
                              refine ⟨(fun h => by cases h), ?_⟩
                              refine any_doneY (by kernel_rfl) ?_
                              refine thn_n (region (ops_y hH76 rfl rfl (yv_move rfl) (ops_y hH76 rfl rfl (yv_move rfl) (ops_y hH76 rfl rfl (yv_move rfl) ?_))))
                              refine ops_y hH76 rfl rfl (yv_index T.sl22 rfl rfl (Heap.rdw T.el22_encI hH76 (n := 0) rfl).is (by omega)) ?_
                              refine ops_y hH76 rfl rfl (yv_load T.one3 rfl (fun _ hw => Rd.at (Heap.rdw T.el22_encI hw (n := 0) rfl) (i := (q : Int)) (by omega) (j := 0) rfl)) ?_
                              refine ops_y hH76 rfl rfl (yv_index T.sl22 rfl rfl (Heap.rdw T.el22_encI hH76 (n := 4) rfl).is (by omega)) ?_
                              refine op_setE (n := 4) (i := nth (S.circ m (x : Int)) (q : Int)) (k := 0) (us := [(.int .i64 0)]) (z := 0) T.el22_encI rfl rfl hH76 rfl (by omega) T.sz3 rfl rfl rfl (Nat.le_of_ble_eq_true rfl) (fun w77 hH78 => ?_)
                              refine ops_nil (blk_n (thn_n (region (ops_y hH78 rfl rfl (yv_move rfl) ?_))))
                              refine ops_y hH78 rfl rfl (yv_add rfl rfl (by omega)) ?_
                              refine ops_y hH78 rfl rfl (yv_assign rfl) (ops_nil ?_)
                              refine lp_n (q + 1, (o2.set (S.it l q (S.mn l (S.minsTo l k))).toNat (S.it m q (S.X l m (S.minsTo l k)))), (F2.set (S.it m q (S.X l m (S.minsTo l k))).toNat 0), v_7, lo_7, hi_7, v_8, lo_8, hi_8) (Sub.cons rfl (Sub.cons rfl (Sub.cons rfl (Sub.cons rfl (Sub.cons rfl (Sub.cons rfl (Sub.cons rfl (Sub.cons rfl (Sub.nil _))))))))) ?_ ?_
                              · exact ⟨(Heap.recast (n := 4) (Heap.recast (n := 5) hH78 rfl (ho3)) rfl (hf3)), by omega, hoa, hst.2⟩
                              · first | (dsimp only; omega) | (show _ < _; omega)
                          · skip
                            have hqe : q = S.len l (S.minsTo l k) := by omega
                            refine cond_f rfl (decide_eq_false hc71) ?_
                            refine exit (thn_x (lp_x (blk_here (blk_n (thn_n (region (ops_y hH70 rfl rfl (yv_move rfl) ?_)))))))
                            refine ops_y hH70 rfl rfl (yv_add rfl rfl (by omega)) ?_
                            refine ops_y hH70 rfl rfl (yv_assign rfl) (ops_nil ?_)
                            have hH79 := (hH70.sub (List.Sublist.cons _ (List.Sublist.cons _ (List.Sublist.cons _ (List.Sublist.cons _ (List.Sublist.refl _))))))
                            refine lp_n (k + 1, o2, F2, v_7, lo_7, hi_7, v_8, lo_8, hi_8) (Sub.cons rfl (Sub.cons rfl (Sub.cons rfl (Sub.cons rfl (Sub.cons rfl (Sub.nil _)))))) ?_ ?_
                            · exact ⟨hH79, by omega, (by rw [S.minsTo_t hmin]; rw [hqe] at hO2; exact hO2.done), (by rw [S.minsTo_t hmin]; rw [hqe] at hF2; exact hF2.done hj2 hmm hJ)⟩
                            · first | (dsimp only; omega) | (show _ < _; omega)
                      · skip
                        refine cond_t rfl (not_decide_t hc54) ?_
                        refine skip (thn_n (block ?_))
                        have hxne : ¬ (x : Int) = S.X l m (S.minsTo l k) := by intro e; first | (rw [← e] at hFX; omega) | (rw [← e] at hXp; omega)
                        refine region (ops_y hH53 rfl rfl (yv_move rfl) ?_)
                        refine ops_y hH53 rfl rfl (yv_add rfl rfl (by omega)) ?_
                        refine ops_y hH53 rfl rfl (yv_assign rfl) (ops_nil (blk_n ?_))
                        have hH80 := (hH53.sub (List.Sublist.cons _ (List.Sublist.cons _ (List.Sublist.refl _))))
                        refine lp_n (x + 1) (Sub.cons rfl (Sub.cons rfl (Sub.cons rfl (Sub.cons rfl (Sub.cons rfl (Sub.cons rfl (Sub.nil _))))))) ?_ ?_
                        · exact ⟨hH80, by omega⟩
                        · first | (dsimp only; omega) | (show _ < _; omega)
                · skip
                  have hmin2 : ¬ S.isMin l (k : Int) = true := ‹_›
                  have hpos := hO.pos hj hj2 hmm (by omega) hmin2
                  refine region (ops_y hH33 rfl rfl (yv_move rfl) (ops_y hH33 rfl rfl (yv_move rfl) ?_))
                  refine ops_y hH33 rfl rfl (yv_index T.sl22 rfl rfl (Heap.rdw T.el22_encI hH33 (n := 1) rfl).is (by omega)) ?_
                  refine ops_y hH33 rfl rfl (yv_load T.one3 rfl (fun _ hw => Rd.at (Heap.rdw T.el22_encI hw (n := 1) rfl) (i := (k : Int)) (by omega) (j := 0) rfl)) ?_
                  refine ops_y hH33 rfl rfl (yv_geq rfl rfl) ?_
                  refine ops_nil (thn_n ?_)
                  have hc81 : 0 ≤ (nth o (k : Int)) := by omega
                  refine cond_t rfl (decide_eq_true hc81) ?_
                  refine exit (thn_x (blk_here (thn_n (region (ops_y hH33 rfl rfl (yv_move rfl) ?_)))))
                  refine ops_y hH33 rfl rfl (yv_add rfl rfl (by omega)) ?_
                  refine ops_y hH33 rfl rfl (yv_assign rfl) (ops_nil ?_)
                  refine lp_n (k + 1, o, F, v_7, lo_7, hi_7, v_8, lo_8, hi_8) (Sub.cons rfl (Sub.cons rfl (Sub.cons rfl (Sub.cons rfl (Sub.cons rfl (Sub.nil _)))))) ?_ ?_
                  · exact ⟨hH33, by omega, (by rw [S.minsTo_f hmin2]; exact hO), (by rw [S.minsTo_f hmin2]; exact hF)⟩
                  · first | (dsimp only; omega) | (show _ < _; omega)
              · skip
                refine cond_f rfl (decide_eq_false hc34) ?_
                refine exit (thn_x (lp_x (blk_here (thn_n (seq (region (ops_y hH33 rfl rfl (yv_move rfl) (ops_y hH33 rfl rfl (yv_assign rfl) (ops_y hH33 rfl rfl (yv_assign rfl) ?_)))))))))
                refine ops_nil (thn_n (ret ?_))
                have hH82 := (hH33.sub (List.Sublist.cons _ (List.Sublist.refl _)))
                refine fin (hH82.front (n := 1) rfl) (fun w' hf => (res2 rfl (show RV _ _ _ (.tmp 4) _ from rfl) (show RV _ _ _ (.tmp 5) _ from rfl))) (fun w' hf => ?_)
                first | (rw [S.al1 htn]; exact ⟨_, rfl, own_nil⟩) | (rw [S.al2 ht hcne]; exact ⟨_, rfl, own_nil⟩) | (have hk2 : k = l.length := (by omega); subst hk2; rw [S.al3 ht hceq, ← hO.1.1.done hj]; exact ⟨_, rfl, Heap.own hf (n := 0) rfl⟩)
  · skip
    have htn : ¬ S.two l m = 0 := ‹_›
    refine region (ops_y hH rfl rfl (yv_move rfl) (ops_y hH rfl rfl (yv_move rfl) ?_))
    refine op_fnV rfl rfl rfl hH (c92 (h0.now hH (n := 0) rfl) (h1.now hH (n := 0) rfl) (by omega) (by omega)) (fun w83 hH84 => ?_)
    refine ops_y hH84 rfl rfl (yv_neq rfl rfl) ?_
    refine ops_nil (thn_n ?_)
    have hc85 : ¬ ((S.two l m) = 0) := htn
    refine cond_t rfl (not_decide_t hc85) ?_
    refine seq (region (ops_y hH84 rfl rfl (yv_move rfl) (ops_y hH84 rfl rfl (yv_move rfl) ?_)))
    refine op_fnV rfl rfl rfl hH84 (c92 (h0.now hH84 (n := 0) rfl) (h1.now hH84 (n := 0) rfl) (by omega) (by omega)) (fun w86 hH87 => ?_)
    refine ops_y hH87 rfl rfl (yv_assign rfl) (ops_y hH87 rfl rfl (yv_assign rfl) (ops_nil (thn_n (ret (thn_r ?_)))))
    refine fin hH87 (fun w' hf => (res2 rfl (show RV _ _ _ (.tmp 4) _ from rfl) (show RV _ _ _ (.tmp 5) _ from rfl))) (fun w' hf => ?_)
    first | (rw [S.al1 htn]; exact ⟨_, rfl, own_nil⟩) | (rw [S.al2 ht hcne]; exact ⟨_, rfl, own_nil⟩) | (have hk2 : k = l.length := (by omega); subst hk2; rw [S.al3 ht hceq, ← hO.1.1.done hj]; exact ⟨_, rfl, Heap.own hf (n := 0) rfl⟩)

theorem c62 {v u x : Value} {l m n : List Int} {w : World} (h0 : Rd encI 1 v l w) (h1 : Rd encI 1 u m w) (h2 : Rd encI 1 x n w) (hj : S.J l) (hlm : l.length = m.length) (hn : n.length ≤ 1000000)  :
    Fn Try.prog 62 [v, u, x].toArray w (fun u _ => u = .bool (decide (S.IsAl l m n))) := by
  refine fn_of' (args := [v, u, x]) Try.func62 rfl (ent Try.func62 (by kernel_rfl) rfl) rfl rfl (fun hH => ?_)
  have hl10 := hj.2.1
  refine seq (region (ops_y hH rfl rfl (yv_assign rfl) (ops_nil (thn_n (seq (seq (region (ops_y hH rfl rfl (yv_move rfl) ?_))))))))
  refine ops_y hH rfl rfl (yv_len T.sl22 rfl (h2.now hH (n := 0) rfl).is) ?_
  refine ops_y hH rfl rfl (yv_move rfl) ?_
  refine ops_y hH rfl rfl (yv_len T.sl22 rfl (h0.now hH (n := 0) rfl).is) ?_
  refine ops_y hH rfl rfl (yv_neq rfl rfl) ?_
  refine ops_y hH rfl rfl (yv_move rfl) ?_
  by_cases hc1 : (n.length : Int) = (l.length : Int)
  · skip
    refine guard_yes rfl rfl (not_decide_n hc1) ?_
    refine ops_y hH rfl rfl (yv_move rfl) ?_
    refine guard_yes rfl rfl (not_decide_n hc1) ?_
    refine op_fnV rfl rfl rfl hH (c24 (h2.now hH (n := 0) rfl) (by omega)) (fun w2 hH3 => ?_)
    refine guard_yes rfl rfl (not_decide_n hc1) ?_
    refine ops_y hH3 rfl rfl (yv_neq rfl rfl) ?_
    refine ops_y hH3 rfl rfl (yv_pick_f rfl (not_decide_n hc1) rfl) ?_
    refine ops_nil (thn_n ?_)
    by_cases hc4 : (S.check n 0) = 0
    · skip
      refine cond_f rfl (not_decide_n hc4) ?_
      refine skip (thn_n (seq (seq ?_)))
      have hcn0 : S.check n 0 = 0 := by omega
      have hjn : S.J n := S.check_iff.1 hcn0
      have hnl : n.length = l.length := by omega
      refine region (ops_y hH3 rfl rfl (yv_assign rfl) (ops_nil (thn_n (block ?_))))
      refine loop (S := Nat) (fun k => [(7, (.int .i64 (k : Int))), (0, v), (1, u), (2, x)]) (fun k w1 => Heap [base w] w1 ∧ k ≤ l.length ∧ ∀ i, i < k → nth n (nth l (i : Int)) = nth m (nth n (i : Int))) (fun k => l.length - k) (0) (Sub.cons rfl (Sub.cons rfl (Sub.cons rfl (Sub.cons rfl (Sub.nil _))))) ?_ ?_
      · exact ⟨hH3, by omega, S.all_zero⟩
      · rintro k w5 ⟨hH6, hk, hall⟩
        show Holds _ _ _ _ _ [(7, (.int .i64 (k : Int))), (0, v), (1, u), (2, x)] _ _
        refine seq (seq (region (ops_y hH6 rfl rfl (yv_move rfl) (ops_y hH6 rfl rfl (yv_move rfl) ?_))))
        refine ops_y hH6 rfl rfl (yv_len T.sl22 rfl (h0.now hH6 (n := 0) rfl).is) ?_
        refine ops_y hH6 rfl rfl (yv_lss rfl rfl) ?_
        refine ops_nil (thn_n ?_)
        by_cases hc7 : (k : Int) < (l.length : Int)
        · skip
          refine cond_t rfl (decide_eq_true hc7) ?_
          refine skip (thn_n (seq (block (seq ?_))))
          have hlk := hj.nth (x := (k : Int)) (by omega) (by omega)
          have hnk := hjn.nth (x := (k : Int)) (by omega) (by omega)
          refine region_draw (fun w' => Heap [base w] w') T.mixed (fun w8 hr9 => ?_)
          have hH10 := hH6.redrawn hr9
          refine any_takes [0, 1, 2, 3, 4, 5, 6, 7, 8, 9, 10, 11, 12, 13, 14] (by kernel_rfl) hH10 _ _ _ (by kernel_rfl) ?_
          refine qs_y rfl rfl (yv_move rfl) (qs_y rfl rfl (yv_move rfl) (qs_y rfl rfl (yv_move rfl) ?_))
          refine qs_y rfl rfl (yv_index T.sl22 rfl rfl (h0.now hH10 (n := 0) rfl).is (by omega)) ?_
          refine qs_y rfl rfl (yv_load T.one3 rfl (fun _ hw => Rd.at (h0.now hw (n := 0) rfl) (i := (k : Int)) (by omega) (j := 0) rfl)) ?_
          refine qs_y rfl rfl (yv_index T.sl22 rfl rfl (h2.now hH10 (n := 0) rfl).is (by omega)) ?_
          refine qs_y rfl rfl (yv_load T.one3 rfl (fun _ hw => Rd.at (h2.now hw (n := 0) rfl) (i := nth l (k : Int)) (by omega) (j := 0) rfl)) ?_
          refine qs_y rfl rfl (yv_move rfl) (qs_y rfl rfl (yv_move rfl) (qs_y rfl rfl (yv_move rfl) ?_))
          refine qs_y rfl rfl (yv_index T.sl22 rfl rfl (h2.now hH10 (n := 0) rfl).is (by omega)) ?_
          refine qs_y rfl rfl (yv_load T.one3 rfl (fun _ hw => Rd.at (h2.now hw (n := 0) rfl) (i := (k : Int)) (by omega) (j := 0) rfl)) ?_
          refine qs_y rfl rfl (yv_index T.sl22 rfl rfl (h1.now hH10 (n := 0) rfl).is (by omega)) ?_
          refine qs_y rfl rfl (yv_load T.one3 rfl (fun _ hw => Rd.at (h1.now hw (n := 0) rfl) (i := nth n (k : Int)) (by omega) (j := 0) rfl)) ?_
          refine qs_y rfl rfl (yv_neq rfl rfl) ?_
          refine qs_nil ?_
          refine any_done (by kernel_rfl) ?_
          refine thn_n ?_
          by_cases hc11 : (nth n (nth l (k : Int))) = (nth m (nth n (k : Int)))
          · skip
            refine cond_f rfl (not_decide_n hc11) ?_
            refine skip (blk_n (thn_n (region (ops_y hH10 rfl rfl (yv_move rfl) ?_))))
            refine ops_y hH10 rfl rfl (yv_add rfl rfl (by omega)) ?_
            refine ops_y hH10 rfl rfl (yv_assign rfl) (ops_nil ?_)
            refine lp_n (k + 1) (Sub.cons rfl (Sub.cons rfl (Sub.cons rfl (Sub.cons rfl (Sub.nil _))))) ?_ ?_
            · exact ⟨hH10, by omega, S.all_snoc hall (by omega)⟩
            · first | (dsimp only; omega) | (show _ < _; omega)
          · skip
            refine cond_t rfl (not_decide_t hc11) ?_
            refine seq (region (ops_y hH10 rfl rfl (yv_assign rfl) (ops_nil (thn_n (ret (blk_r (thn_r (lp_r (blk_r ?_)))))))))
            refine thn_r ?_
            refine fin hH10 (fun w' hf => (res1 rfl (show RV _ _ _ (.tmp 6) _ from rfl))) (fun w' hf => ?_)
            show Value.bool _ = Value.bool _; congr 1; first | exact (decide_eq_false (fun h => absurd h.1 (by omega))).symm | exact (decide_eq_false (fun h => absurd h.2.1 (by omega))).symm | exact (decide_eq_false (fun h => absurd (h.2.2 k (by omega)) (by omega))).symm | exact (decide_eq_true ⟨hnl, hcn0, fun i hi => hall i (by omega)⟩).symm
        · skip
          refine cond_f rfl (decide_eq_false hc7) ?_
          refine exit (thn_x (lp_x (blk_here (thn_n (seq (region (ops_y hH6 rfl rfl (yv_assign rfl) (ops_nil (thn_n ?_)))))))))
          refine ret ?_
          refine fin hH6 (fun w' hf => (res1 rfl (show RV _ _ _ (.tmp 6) _ from rfl))) (fun w' hf => ?_)
          show Value.bool _ = Value.bool _; congr 1; first | exact (decide_eq_false (fun h => absurd h.1 (by omega))).symm | exact (decide_eq_false (fun h => absurd h.2.1 (by omega))).symm | exact (decide_eq_false (fun h => absurd (h.2.2 k (by omega)) (by omega))).symm | exact (decide_eq_true ⟨hnl, hcn0, fun i hi => hall i (by omega)⟩).symm
    · skip
      refine cond_t rfl (not_decide_t hc4) ?_
      refine seq (region (ops_y hH3 rfl rfl (yv_assign rfl) (ops_nil (thn_n (ret (thn_r ?_))))))
      refine fin hH3 (fun w' hf => (res1 rfl (show RV _ _ _ (.tmp 6) _ from rfl))) (fun w' hf => ?_)
      show Value.bool _ = Value.bool _; congr 1; first | exact (decide_eq_false (fun h => absurd h.1 (by omega))).symm | exact (decide_eq_false (fun h => absurd h.2.1 (by omega))).symm | exact (decide_eq_false (fun h => absurd (h.2.2 k (by omega)) (by omega))).symm | exact (decide_eq_true ⟨hnl, hcn0, fun i hi => hall i (by omega)⟩).symm
  · skip
    refine guard_no rfl rfl (not_decide_t hc1) rfl ?_
    refine guard_no rfl rfl (not_decide_t hc1) rfl ?_
    refine guard_no rfl rfl (not_decide_t hc1) rfl ?_
    refine ops_y hH rfl rfl (yv_pick_t rfl (not_decide_t hc1) rfl) ?_
    refine ops_nil (thn_n ?_)
    refine cond_t rfl rfl ?_
    refine seq (region (ops_y hH rfl rfl (yv_assign rfl) (ops_nil (thn_n (ret (thn_r ?_))))))
    refine fin hH (fun w' hf => (res1 rfl (show RV _ _ _ (.tmp 6) _ from rfl))) (fun w' hf => ?_)
    show Value.bool _ = Value.bool _; congr 1; first | exact (decide_eq_false (fun h => absurd h.1 (by omega))).symm | exact (decide_eq_false (fun h => absurd h.2.1 (by omega))).symm | exact (decide_eq_false (fun h => absurd (h.2.2 k (by omega)) (by omega))).symm | exact (decide_eq_true ⟨hnl, hcn0, fun i hi => hall i (by omega)⟩).symm

end Go.Fip
