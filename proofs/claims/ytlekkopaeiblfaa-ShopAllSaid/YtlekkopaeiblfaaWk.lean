/- Walks, by program (wip/tools). -/
import Derived.Test.YtlekkopaeiblfaaWj
import Derived.Test.YtlekkopaeiblfaaSq
set_option linter.unusedVariables false
set_option linter.unusedSimpArgs false
set_option linter.unusedSectionVars false
set_option linter.unnecessarySimpa false
namespace Go.Fip
open Go.Proofs Go.RowKit

theorem c91 {v : Value} {l : List Int} {w : World} (h0 : Rd encI 1 v l w) (hn : l.length ≤ 1000000)  :
    Fn Try.prog 91 [v].toArray w (fun u w => Own 3 1 encI u l w) := by
  refine fn_of' (args := [v]) Try.func91 rfl (ent Try.func91 (by kernel_rfl) rfl) rfl rfl (fun hH => ?_)
  refine seq ?_
  refine region ?_
  refine ops_y hH rfl rfl (yv_assign rfl) ?_
  refine ops_nil ?_
  refine thn_n ?_
  refine seq ?_
  refine seq ?_
  refine region ?_
  refine ops_y hH rfl rfl (yv_move rfl) ?_
  refine ops_y hH rfl rfl (yv_eqNil T.sl39.1 rfl (h0.now hH (n := 0) rfl).is) ?_
  refine ops_nil ?_
  refine thn_n ?_
  by_cases hc1 : isNilS v = true
  · skip
    have hl : l = [] := List.eq_nil_of_length_eq_zero (isNilS_len h0.is ‹_›)
    refine cond_t rfl hc1 ?_
    refine seq ?_
    refine region ?_
    refine ops_y hH rfl rfl (yv_assign rfl) ?_
    refine ops_nil ?_
    refine thn_n ?_
    refine ret ?_
    refine thn_r ?_
    refine fin hH (fun w' hf => (res1 rfl (show RV _ _ _ (.tmp 2) _ from rfl))) (fun w' hf => ?_)
    first | exact (by rw [hl]; exact own_nil) | exact (by have h := Heap.own hf (n := 0) rfl; simpa using h)
  · skip
    refine cond_f rfl (Bool.eq_false_iff.2 hc1) ?_
    refine skip ?_
    refine thn_n ?_
    refine seq ?_
    refine region ?_
    refine op_lit (us := []) T.el39_encI ([] : List Int) rfl (by decide) rfl (fun a ha => by simp) (fun w => by kernel_rfl) hH (fun u2 lo4 hi5 w3 hH6 => ?_)
    refine ops_y hH6 rfl rfl (yv_move rfl) ?_
    refine op_append (n := 0) T.el39_encI rfl rfl rfl hH6 rfl (h0.now hH6 (n := 1) rfl) (by first | omega | (simp only [List.length_append, List.length_cons, List.length_nil]; omega)) (fun u7 lo9 hi10 w8 hH11 => ?_)
    refine ops_y hH11 rfl rfl (yv_assign rfl) ?_
    refine ops_nil ?_
    refine thn_n ?_
    refine ret ?_
    refine fin (hH11.front (n := 1) rfl) (fun w' hf => (res1 rfl (show RV _ _ _ (.tmp 2) _ from rfl))) (fun w' hf => ?_)
    first | exact (by rw [hl]; exact own_nil) | exact (by have h := Heap.own hf (n := 0) rfl; simpa using h)

theorem c101 {x n : Int} {b1 : Nat} {w : World} (k1 : Bx b1 3 [.int .i64 n] w)  :
    Fn Try.prog 101 [(.int .i64 x), (.pointer (some ⟨b1, 0, none⟩))].toArray w (fun u _ => u = .bool (decide (x = n))) := by
  refine fn_of' (args := [(.int .i64 x), (.pointer (some ⟨b1, 0, none⟩))]) Try.func101 rfl (ent Try.func101 (by kernel_rfl) rfl) rfl rfl (fun hH => ?_)
  refine seq ?_
  refine region ?_
  refine ops_y hH rfl rfl (yv_assign rfl) ?_
  refine ops_nil ?_
  refine thn_n ?_
  refine seq ?_
  refine region ?_
  refine ops_y hH rfl rfl (yv_move rfl) ?_
  refine ops_y hH rfl rfl (yv_load T.one3 rfl (fun _ hw => bx_cell (k1.now hw (n := 0) rfl) rfl)) ?_
  refine ops_y hH rfl rfl (yv_eql rfl rfl) ?_
  refine ops_y hH rfl rfl (yv_assign rfl) ?_
  refine ops_nil ?_
  refine thn_n ?_
  refine ret ?_
  refine fin hH (fun w' hf => (res1 rfl (show RV _ _ _ (.tmp 3) _ from rfl))) (fun w' hf => ?_)
  rfl

theorem c96b {v : Value} {l : List Int} {n : Int} {b1 : Nat} {w : World} (h0 : Rd encI 1 v l w) (k1 : Bx b1 3 [.int .i64 n] w) (hl : l.length ≤ 1000000)  :
    Fn Try.prog 96 [v, (.func (.func 101) #[] #[(.pointer (some ⟨b1, 0, none⟩))])].toArray w (fun u _ => u = .int .i64 (idx (fun x : Int => decide (x = n)) l)) := by
  refine fn_of' (args := [v, (.func (.func 101) #[] #[(.pointer (some ⟨b1, 0, none⟩))])]) Try.func96 rfl (ent Try.func96 (by kernel_rfl) rfl) rfl rfl (fun hH => ?_)
  refine seq ?_
  refine region ?_
  refine ops_y hH rfl rfl (yv_assign rfl) ?_
  refine ops_nil ?_
  refine thn_n ?_
  refine seq ?_
  refine seq ?_
  refine region ?_
  refine ops_y hH rfl rfl (yv_move rfl) ?_
  refine ops_y hH rfl rfl (yv_len T.sl39 rfl (h0.now hH (n := 0) rfl).is) ?_
  refine ops_y hH rfl rfl (yv_move rfl) ?_
  refine ops_nil ?_
  refine thn_n ?_
  refine block ?_
  refine loop (S := Nat) (fun k => [(8, (.int .i64 (k : Int))), (0, v), (1, (.func (.func 101) #[] #[(.pointer (some ⟨b1, 0, none⟩))])), (7, (.int .i64 (l.length : Int)))]) (fun k w1 => Heap [base w] w1 ∧ k ≤ l.length ∧ ∀ i, i < k → (fun x : Int => decide (x = n)) (nth l (i : Int)) = false) (fun k => l.length - k) (0) (Sub.cons rfl (Sub.cons rfl (Sub.cons rfl (Sub.cons rfl (Sub.nil _))))) ?_ ?_
  · exact ⟨hH, by omega, S.all_zero⟩
  · rintro k w1 ⟨hH2, hk, hall⟩
    show Holds _ _ _ _ _ [(8, (.int .i64 (k : Int))), (0, v), (1, (.func (.func 101) #[] #[(.pointer (some ⟨b1, 0, none⟩))])), (7, (.int .i64 (l.length : Int)))] _ _
    refine seq ?_
    refine region ?_
    refine ops_y hH2 rfl rfl (yv_lss rfl rfl) ?_
    refine ops_nil ?_
    refine thn_n ?_
    refine seq ?_
    by_cases hc3 : (k : Int) < (l.length : Int)
    · skip
      refine cond_t rfl (decide_eq_true hc3) ?_
      refine skip ?_
      refine thn_n ?_
      refine seq ?_
      refine block ?_
      refine seq ?_
      refine region ?_
      refine ops_y hH2 rfl rfl (yv_move rfl) ?_
      refine ops_y hH2 rfl rfl (yv_assign rfl) ?_
      refine ops_nil ?_
      refine thn_n ?_
      refine seq ?_
      refine region ?_
      refine ops_y hH2 rfl rfl (yv_move rfl) ?_
      refine ops_y hH2 rfl rfl (yv_move rfl) ?_
      refine ops_y hH2 rfl rfl (yv_move rfl) ?_
      refine ops_y hH2 rfl rfl (yv_index T.sl39 rfl rfl (h0.now hH2 (n := 0) rfl).is (by omega)) ?_
      refine ops_y hH2 rfl rfl (yv_load T.one3 rfl (fun _ hw => Rd.at (h0.now hw (n := 0) rfl) (i := (k : Int)) (by omega) (j := 0) rfl)) ?_
      refine op_fnV rfl rfl rfl hH2 (c101 (k1.now hH2 (n := 0) rfl)) (fun w4 hH5 => ?_)
      refine ops_nil ?_
      refine thn_n ?_
      by_cases hc6 : nth l (k : Int) = n
      · skip
        have hp : (fun x : Int => decide (x = n)) (nth l (k : Int)) = true := (decide_eq_true hc6)
        refine cond_t rfl (decide_eq_true hc6) ?_
        refine seq ?_
        refine region ?_
        refine ops_y hH5 rfl rfl (yv_move rfl) ?_
        refine ops_y hH5 rfl rfl (yv_assign rfl) ?_
        refine ops_nil ?_
        refine thn_n ?_
        refine ret ?_
        refine blk_r ?_
        refine thn_r ?_
        refine lp_r ?_
        refine blk_r ?_
        refine thn_r ?_
        refine fin hH5 (fun w' hf => (res1 rfl (show RV _ _ _ (.tmp 4) _ from rfl))) (fun w' hf => ?_)
        first | exact congrArg (Value.int .i64) (idx_hit (k := k) (by omega) hall hp).symm | exact congrArg (Value.int .i64) (idx_miss (fun i hi => hall i (by omega))).symm
      · skip
        have hp : (fun x : Int => decide (x = n)) (nth l (k : Int)) = false := (decide_eq_false hc6)
        refine cond_f rfl (decide_eq_false hc6) ?_
        refine skip ?_
        refine blk_n ?_
        refine thn_n ?_
        refine region ?_
        refine ops_y hH5 rfl rfl (yv_add rfl rfl (by omega)) ?_
        refine ops_y hH5 rfl rfl (yv_move rfl) ?_
        refine ops_nil ?_
        refine lp_n (k + 1) (Sub.cons rfl (Sub.cons rfl (Sub.cons rfl (Sub.cons rfl (Sub.nil _))))) ?_ ?_
        · exact ⟨hH5, by omega, S.all_snoc hall hp⟩
        · first | (dsimp only; omega) | (show _ < _; omega)
    · skip
      refine cond_f rfl (decide_eq_false hc3) ?_
      refine exit ?_
      refine thn_x ?_
      refine lp_x ?_
      refine blk_here ?_
      refine thn_n ?_
      refine seq ?_
      refine region ?_
      refine ops_y hH2 rfl rfl (yv_assign rfl) ?_
      refine ops_nil ?_
      refine thn_n ?_
      refine ret ?_
      refine fin hH2 (fun w' hf => (res1 rfl (show RV _ _ _ (.tmp 4) _ from rfl))) (fun w' hf => ?_)
      first | exact congrArg (Value.int .i64) (idx_hit (k := k) (by omega) hall hp).symm | exact congrArg (Value.int .i64) (idx_miss (fun i hi => hall i (by omega))).symm

theorem c100 {v : Value} {l : List Int} {n : Int} {b1 g : Nat} {w : World} (h0 : Own 3 1 encI v l w) (hg : v.ownBlock = some g) (k1 : Bx b1 3 [.int .i64 n] w) (hne : b1 ≠ g) (hn : l.length ≤ 1000000) :
    FnM Try.prog 100 [v, (.func (.func 101) #[] #[(.pointer (some ⟨b1, 0, none⟩))])].toArray w g (fun u w => Own 3 1 encI u (l.filter fun y => !decide (y = n)) w) := by
  refine fnM_of (args := [v, (.func (.func 101) #[] #[(.pointer (some ⟨b1, 0, none⟩))])]) Try.func100 rfl (ent Try.func100 (by kernel_rfl) rfl) rfl rfl (ow_row h0 hg) (fun hH => ?_)
  have hlen : l.length ≤ 1000000 := hn
  refine seq ?_
  refine region ?_
  refine ops_y hH rfl rfl (yv_assign rfl) ?_
  refine ops_nil ?_
  refine thn_n ?_
  refine seq ?_
  refine region ?_
  refine ops_y hH rfl rfl (yv_move rfl) ?_
  refine ops_y hH rfl rfl (yv_move rfl) ?_
  refine op_fnV rfl rfl rfl hH (c96b (Heap.rdw T.el39_encI hH (n := 0) rfl) (Bx.nowM k1 hne hH (n := 1) (m := 2) rfl rfl) (by omega)) (fun w1 hH2 => ?_)
  refine ops_y hH2 rfl rfl (yv_assign rfl) ?_
  refine ops_nil ?_
  refine thn_n ?_
  refine seq ?_
  refine seq ?_
  refine region ?_
  refine ops_y hH2 rfl rfl (yv_move rfl) ?_
  refine ops_y hH2 rfl rfl (yv_eql rfl rfl) ?_
  refine ops_nil ?_
  refine thn_n ?_
  by_cases hc3 : (idx (fun x : Int => decide (x = n)) l) = (-1)
  · skip
    have hall := ((idx_cases (fun y : Int => decide (y = n)) l).resolve_right (fun h => by obtain ⟨k, _, h2, _⟩ := h; omega)).2
    refine cond_t rfl (decide_eq_true hc3) ?_
    refine seq ?_
    refine region ?_
    refine ops_y hH2 rfl rfl (yv_move rfl) ?_
    refine ops_y hH2 rfl rfl (yv_assign rfl) ?_
    refine ops_nil ?_
    refine thn_n ?_
    refine ret ?_
    refine thn_r ?_
    refine finM hH2 (res1 rfl (show RV _ _ _ (.tmp 4) _ from rfl)) (fun w' hf => ?_)
    first | exact (congrArg (fun q => Own 3 1 encI v q w') (del_all hall)).mp hf.1 | exact (congrArg (fun q => Own 3 1 encI (cutv v 1 0 i) q w') (hD.done (by omega) 0)).mp (Own.upto (q := i) (fun _ => rfl) hf.1 (by simp; omega))
  · skip
    obtain ⟨k, hk, hke, hkp, hkf⟩ := (idx_cases (fun y : Int => decide (y = n)) l).resolve_left (fun h => absurd h.1 ‹_›)
    refine cond_f rfl (decide_eq_false hc3) ?_
    refine skip ?_
    refine thn_n ?_
    refine seq ?_
    refine seq ?_
    refine region ?_
    refine ops_y hH2 rfl rfl (yv_move rfl) ?_
    refine ops_y hH2 rfl rfl (yv_add rfl rfl (by omega)) ?_
    refine ops_y hH2 rfl rfl (yv_assign rfl) ?_
    refine ops_nil ?_
    refine thn_n ?_
    refine block ?_
    refine loop (S := Nat × Nat × List Int) (fun (i, j, L) => [(5, (.int .i64 (i : Int))), (6, (.int .i64 (j : Int))), (0, v), (1, (.func (.func 101) #[] #[(.pointer (some ⟨b1, 0, none⟩))])), (4, (.slice none 0 0))]) (fun (i, j, L) w1 => Heap [ow g (g + 1) 3 1 encI v L, restL w g, restR w g] w1 ∧ DelAt (fun y : Int => decide (y = n)) l L i j) (fun (i, j, L) => l.length - j) (k, (k + 1), l) (Sub.cons (show some (Value.int .i64 (idx (fun y : Int => decide (y = n)) l)) = some (Value.int .i64 ((k : Nat) : Int)) from by rw [hke]) (Sub.cons (show some (Value.int .i64 (idx (fun y : Int => decide (y = n)) l + 1)) = some (Value.int .i64 ((k + 1 : Nat) : Int)) from by rw [hke]; rfl) (Sub.cons rfl (Sub.cons rfl (Sub.cons rfl (Sub.nil _)))))) ?_ ?_
    · exact ⟨hH2, ⟨by omega, hk, rfl, del_start hk hkf hkp, rfl⟩⟩
    · rintro ⟨i, j, L⟩ w4 ⟨hH5, hD⟩
      show Holds _ _ _ _ _ [(5, (.int .i64 (i : Int))), (6, (.int .i64 (j : Int))), (0, v), (1, (.func (.func 101) #[] #[(.pointer (some ⟨b1, 0, none⟩))])), (4, (.slice none 0 0))] _ _
      have hD8 := hD
      obtain ⟨hij, hjl0, hLl, _, _⟩ := hD8
      refine seq ?_
      refine seq ?_
      refine region ?_
      refine ops_y hH5 rfl rfl (yv_move rfl) ?_
      refine ops_y hH5 rfl rfl (yv_move rfl) ?_
      refine ops_y hH5 rfl rfl (yv_len T.sl39 rfl (Heap.rdw T.el39_encI hH5 (n := 0) rfl).is) ?_
      refine ops_y hH5 rfl rfl (yv_lss rfl rfl) ?_
      refine ops_nil ?_
      refine thn_n ?_
      by_cases hc6 : (j : Int) < (L.length : Int)
      · skip
        have hjl : j < l.length := by omega
        refine cond_t rfl (decide_eq_true hc6) ?_
        refine skip ?_
        refine thn_n ?_
        refine seq ?_
        refine block ?_
        refine seq ?_
        refine region ?_
        refine ops_y hH5 rfl rfl (yv_move rfl) ?_
        refine ops_y hH5 rfl rfl (yv_move rfl) ?_
        refine ops_y hH5 rfl rfl (yv_index T.sl39 rfl rfl (Heap.rdw T.el39_encI hH5 (n := 0) rfl).is (by omega)) ?_
        refine ops_y hH5 rfl rfl (yv_load T.one3 rfl (fun _ hw => Rd.at (Heap.rdw T.el39_encI hw (n := 0) rfl) (i := (j : Int)) (by omega) (j := 0) rfl)) ?_
        refine ops_y hH5 rfl rfl (yv_assign rfl) ?_
        refine ops_nil ?_
        refine thn_n ?_
        refine seq ?_
        refine region ?_
        refine ops_y hH5 rfl rfl (yv_move rfl) ?_
        refine ops_y hH5 rfl rfl (yv_move rfl) ?_
        refine op_fnV rfl rfl rfl hH5 (c101 (Bx.nowM k1 hne hH5 (n := 1) (m := 2) rfl rfl)) (fun w7 hH8 => ?_)
        refine ops_y hH8 rfl rfl (yv_not rfl) ?_
        refine ops_nil ?_
        refine thn_n ?_
        by_cases hc9 : nth L (j : Int) = n
        · skip
          have hdrop : (fun y : Int => decide (y = n)) (nth l (j : Int)) = true := by rw [← hD.nth hjl]; exact decide_eq_true ‹_›
          refine cond_f rfl (not_decide_n hc9) ?_
          refine skip ?_
          refine blk_n ?_
          refine thn_n ?_
          refine region ?_
          refine ops_y hH8 rfl rfl (yv_move rfl) ?_
          refine ops_y hH8 rfl rfl (yv_add rfl rfl (by omega)) ?_
          refine ops_y hH8 rfl rfl (yv_assign rfl) ?_
          refine ops_nil ?_
          refine lp_n (i, j + 1, L) (Sub.cons rfl (Sub.cons rfl (Sub.cons rfl (Sub.cons rfl (Sub.cons rfl (Sub.nil _)))))) ?_ ?_
          · exact ⟨hH8, hD.drop hjl hdrop⟩
          · first | (dsimp only; omega) | (show _ < _; omega)
        · skip
          have hkeep : (fun y : Int => decide (y = n)) (nth l (j : Int)) = false := by rw [← hD.nth hjl]; exact decide_eq_false ‹_›
          refine cond_t rfl (not_decide_t hc9) ?_
          refine seq ?_
          refine region ?_
          refine ops_y hH8 rfl rfl (yv_move rfl) ?_
          refine ops_y hH8 rfl rfl (yv_move rfl) ?_
          refine ops_y hH8 rfl rfl (yv_move rfl) ?_
          refine ops_y hH8 rfl rfl (yv_index T.sl39 rfl rfl (Heap.rdw T.el39_encI hH8 (n := 0) rfl).is (by omega)) ?_
          refine op_setE (n := 0) (i := (i : Int)) (k := 0) (us := [(.int .i64 (nth L (j : Int)))]) (z := nth L (j : Int)) T.el39_encI rfl rfl hH8 rfl (by omega) T.sz3 rfl rfl rfl (Nat.le_of_ble_eq_true rfl) (fun w10 hH11 => ?_)
          refine ops_nil ?_
          refine thn_n ?_
          refine region ?_
          refine ops_y hH11 rfl rfl (yv_move rfl) ?_
          refine ops_y hH11 rfl rfl (yv_add rfl rfl (by omega)) ?_
          refine ops_y hH11 rfl rfl (yv_assign rfl) ?_
          refine ops_nil ?_
          refine blk_n ?_
          refine thn_n ?_
          refine region ?_
          refine ops_y hH11 rfl rfl (yv_move rfl) ?_
          refine ops_y hH11 rfl rfl (yv_add rfl rfl (by omega)) ?_
          refine ops_y hH11 rfl rfl (yv_assign rfl) ?_
          refine ops_nil ?_
          refine lp_n (i + 1, j + 1, (L.set (i : Int).toNat (nth L (j : Int)))) (Sub.cons rfl (Sub.cons rfl (Sub.cons rfl (Sub.cons rfl (Sub.cons rfl (Sub.nil _)))))) ?_ ?_
          · exact ⟨hH11, (by have h := hD.keep hjl hkeep; rw [← hD.nth hjl] at h; exact h)⟩
          · first | (dsimp only; omega) | (show _ < _; omega)
      · skip
        refine cond_f rfl (decide_eq_false hc6) ?_
        refine exit ?_
        refine thn_x ?_
        refine lp_x ?_
        refine blk_here ?_
        refine thn_n ?_
        refine seq ?_
        refine region ?_
        refine ops_y hH5 rfl rfl (yv_move rfl) ?_
        refine ops_y hH5 rfl rfl (yv_move rfl) ?_
        refine ops_y hH5 rfl rfl (yv_cut_lo T.sl39 rfl rfl (Heap.rdw T.el39_encI hH5 (n := 0) rfl).is (by omega)) ?_
        refine op_clear_from (n := 0) (q := (i : Int).toNat) T.el39_encI (0 : Int) T.z39_encI rfl rfl hH5 rfl (by omega) (fun w12 hH13 => ?_)
        refine ops_nil ?_
        refine thn_n ?_
        refine seq ?_
        refine region ?_
        refine ops_y hH13 rfl rfl (yv_move rfl) ?_
        refine ops_y hH13 rfl rfl (yv_move rfl) ?_
        refine ops_y hH13 rfl rfl (yv_cut_hi T.sl39 rfl rfl (Heap.rdw T.el39_encI hH13 (n := 0) rfl).is (by simp; omega)) ?_
        refine ops_y hH13 rfl rfl (yv_assign rfl) ?_
        refine ops_nil ?_
        refine thn_n ?_
        refine ret ?_
        refine finM hH13 (res1 rfl (show RV _ _ _ (.tmp 4) _ from rfl)) (fun w' hf => ?_)
        first | exact (congrArg (fun q => Own 3 1 encI v q w') (del_all hall)).mp hf.1 | exact (congrArg (fun q => Own 3 1 encI (cutv v 1 0 i) q w') (hD.done (by omega) 0)).mp (Own.upto (q := i) (fun _ => rfl) hf.1 (by simp; omega))

theorem c89 {v : Value} {l : List Int} {n : Int} {w : World} (h0 : Rd encI 1 v l w) (hl1 : 1 ≤ l.length) (hn : l.length ≤ 1000000)  :
    Fn Try.prog 89 [v, (.int .i64 n)].toArray w (fun u w => Own 3 1 encI u (l.filter fun y => !decide (y = n)) w) := by
  refine fn_of' (args := [v, (.int .i64 n)]) Try.func89 rfl (ent Try.func89 (by kernel_rfl) rfl) rfl rfl (fun hH => ?_)
  refine seq ?_
  refine region ?_
  refine op_box (us := [(.int .i64 n)]) rfl rfl rfl hH (fun b1 w2 hH3 => ?_)
  refine ops_y hH3 rfl rfl (yv_assign rfl) ?_
  refine ops_nil ?_
  refine thn_n ?_
  refine seq ?_
  refine region ?_
  refine ops_y hH3 rfl rfl (yv_move rfl) ?_
  refine op_fn rfl rfl rfl hH3 (c91 (h0.now hH3 (n := 1) rfl) (by omega)) (fun u6 w4 lo7 hi8 hH5 hv9 => ?_)
  have hH10 := Heap.toOw hH5 (n := 0) rfl
  refine ops_y hH10 rfl rfl (yv_func rfl rfl) ?_
  obtain ⟨g11, hgb12, hgl13⟩ := Ow.blk (show Ow _ _ _ _ _ _ _ _ from hH10.get (n := 0) rfl) (by first | assumption | omega)
  refine op_fnM (g := g11) (n := 0) rfl rfl rfl hH10 rfl hgl13 (c100 (Heap.own hH10 (n := 0) rfl) hgb12 (Heap.bxw hH10 (n := 1) rfl) (Heap.ne hH10 (n := 0) (m := 1) rfl rfl hgl13 (by decide)) (by omega)) (fun u16 w14 hH15 hv17 => ?_)
  have hH18 := Heap.toOw hH15 (n := 0) rfl
  refine ops_y hH18 rfl rfl (yv_assign rfl) ?_
  refine ops_nil ?_
  refine thn_n ?_
  refine ret ?_
  have hH19 := (hH18.sub (List.Sublist.cons_cons _ (List.Sublist.cons _ (List.Sublist.refl _))))
  refine fin (hH19.front (n := 1) rfl) (fun w' hf => (res1 rfl (show RV _ _ _ (.tmp 4) _ from rfl))) (fun w' hf => ?_)
  exact Heap.own hf (n := 0) rfl

theorem c86 {vj : Value} {js : List S.Pr} {x y : Int} {b1 : Nat} {w : World} (k1 : Bx b1 22 [vj] w) (h1 : Rd encP 2 vj js w) (hx : 0 ≤ x ∧ x < (js.length : Int)) (hy : 0 ≤ y ∧ y < (js.length : Int))  :
    Fn Try.prog 86 [(.int .i64 x), (.int .i64 y), (.pointer (some ⟨b1, 0, none⟩))].toArray w (fun u _ => u = .bool (S.longer1 js x y)) := by
  refine fn_of' (args := [(.int .i64 x), (.int .i64 y), (.pointer (some ⟨b1, 0, none⟩))]) Try.func86 rfl (ent Try.func86 (by kernel_rfl) rfl) rfl rfl (fun hH => ?_)
  refine seq ?_
  refine region ?_
  refine ops_y hH rfl rfl (yv_assign rfl) ?_
  refine ops_nil ?_
  refine thn_n ?_
  refine seq ?_
  refine region_draw (fun w' => Heap [base w] w') T.mixed (fun w1 hr2 => ?_)
  have hH3 := hH.redrawn hr2
  refine any_takes [0, 1, 2, 3, 4, 5, 6, 7, 8, 9, 10, 11] (by kernel_rfl) hH3 _ _ _ (by kernel_rfl) ?_
  refine qs_y rfl rfl (yv_load T.one22 rfl (fun _ hw => bx_cell (k1.now hw (n := 0) rfl) rfl)) ?_
  refine qs_y rfl rfl (yv_move rfl) ?_
  refine qs_y rfl rfl (yv_index T.sl22 rfl rfl (h1.now hH3 (n := 0) rfl).is (by omega)) ?_
  refine qs_y rfl rfl (yv_field T.f71_0 rfl) ?_
  refine qs_y rfl rfl (yv_load T.one2 rfl (fun _ hw => Rd.at (h1.now hw (n := 0) rfl) (i := x) (by omega) (j := 0) rfl)) ?_
  refine qs_y rfl rfl (yv_load T.one22 rfl (fun _ hw => bx_cell (k1.now hw (n := 0) rfl) rfl)) ?_
  refine qs_y rfl rfl (yv_move rfl) ?_
  refine qs_y rfl rfl (yv_index T.sl22 rfl rfl (h1.now hH3 (n := 0) rfl).is (by omega)) ?_
  refine qs_y rfl rfl (yv_field T.f71_0 rfl) ?_
  refine qs_y rfl rfl (yv_load T.one2 rfl (fun _ hw => Rd.at (h1.now hw (n := 0) rfl) (i := y) (by omega) (j := 0) rfl)) ?_
  refine qs_y rfl rfl (yv_gtr rfl rfl) ?_
  refine qs_y rfl rfl (yv_assign rfl) ?_
  refine qs_nil ?_
  refine any_done (by kernel_rfl) ?_
  refine thn_n ?_
  refine ret ?_
  refine fin hH3 (fun w' hf => (res1 rfl (show RV _ _ _ (.tmp 5) _ from rfl))) (fun w' hf => ?_)
  rfl

theorem c88_86 {v vj : Value} {l : List Int} {js : List S.Pr} {b1 : Nat} {w : World} (h0 : Rd encI 1 v l w) (k1 : Bx b1 22 [vj] w) (h1 : Rd encP 2 vj js w) (hn : 1 ≤ l.length) (hn2 : l.length ≤ 1000000) (hin : ∀ i, i < l.length → 0 ≤ nth l (i : Int) ∧ nth l (i : Int) < (js.length : Int))  :
    Fn Try.prog 88 [v, (.func (.func 86) #[] #[(.pointer (some ⟨b1, 0, none⟩))])].toArray w (fun u _ => u = .int .i64 (bestTo (S.longer1 js) l (l.length - 1))) := by
  refine fn_of' (args := [v, (.func (.func 86) #[] #[(.pointer (some ⟨b1, 0, none⟩))])]) Try.func88 rfl (ent Try.func88 (by kernel_rfl) rfl) rfl rfl (fun hH => ?_)
  have hd : (l.drop 1).length = l.length - 1 := List.length_drop
  refine seq ?_
  refine region ?_
  refine ops_y hH rfl rfl (yv_assign rfl) ?_
  refine ops_nil ?_
  refine thn_n ?_
  refine seq ?_
  refine region ?_
  refine ops_y hH rfl rfl (yv_move rfl) ?_
  refine ops_y hH rfl rfl (yv_index T.sl39 rfl rfl (h0.now hH (n := 0) rfl).is (by omega)) ?_
  refine ops_y hH rfl rfl (yv_load T.one3 rfl (fun _ hw => Rd.at (h0.now hw (n := 0) rfl) (i := 0) (by omega) (j := 0) rfl)) ?_
  refine ops_y hH rfl rfl (yv_assign rfl) ?_
  refine ops_nil ?_
  refine thn_n ?_
  refine seq ?_
  refine seq ?_
  refine region ?_
  refine ops_y hH rfl rfl (yv_move rfl) ?_
  refine ops_y hH rfl rfl (yv_cut_lo T.sl39 rfl rfl (h0.now hH (n := 0) rfl).is (by omega)) ?_
  refine ops_y hH rfl rfl (yv_len T.sl39 rfl (Rd.from (h0.now hH (n := 0) rfl) (lo := 1) (by omega)).is) ?_
  refine ops_y hH rfl rfl (yv_move rfl) ?_
  refine ops_nil ?_
  refine thn_n ?_
  refine block ?_
  refine loop (S := Nat) (fun k => [(14, (.int .i64 (k : Int))), (5, (.int .i64 (bestTo (S.longer1 js) l k))), (1, (.func (.func 86) #[] #[(.pointer (some ⟨b1, 0, none⟩))])), (4, (.int .i64 0)), (12, (cutv v 1 1 l.length)), (13, (.int .i64 ((l.drop 1).length : Int)))]) (fun k w1 => Heap [base w] w1 ∧ k ≤ (l.drop 1).length) (fun k => (l.drop 1).length - k) (0) (Sub.cons rfl (Sub.cons rfl (Sub.cons rfl (Sub.cons rfl (Sub.cons rfl (Sub.cons rfl (Sub.nil _))))))) ?_ ?_
  · exact ⟨hH, by omega⟩
  · rintro k w1 ⟨hH2, hk⟩
    show Holds _ _ _ _ _ [(14, (.int .i64 (k : Int))), (5, (.int .i64 (bestTo (S.longer1 js) l k))), (1, (.func (.func 86) #[] #[(.pointer (some ⟨b1, 0, none⟩))])), (4, (.int .i64 0)), (12, (cutv v 1 1 l.length)), (13, (.int .i64 ((l.drop 1).length : Int)))] _ _
    refine seq ?_
    refine region ?_
    refine ops_y hH2 rfl rfl (yv_lss rfl rfl) ?_
    refine ops_nil ?_
    refine thn_n ?_
    refine seq ?_
    by_cases hc3 : (k : Int) < ((l.drop 1).length : Int)
    · skip
      refine cond_t rfl (decide_eq_true hc3) ?_
      refine skip ?_
      refine thn_n ?_
      refine seq ?_
      refine block ?_
      refine seq ?_
      refine region ?_
      refine ops_y hH2 rfl rfl (yv_index T.sl39 rfl rfl (Rd.from (h0.now hH2 (n := 0) rfl) (lo := 1) (by omega)).is (by omega)) ?_
      refine ops_y hH2 rfl rfl (yv_load T.one3 rfl (fun _ hw => Rd.at (Rd.from (h0.now hw (n := 0) rfl) (lo := 1) (by omega)) (i := (k : Int)) (by omega) (j := 0) rfl)) ?_
      refine ops_y hH2 rfl rfl (yv_assign rfl) ?_
      refine ops_nil ?_
      refine thn_n ?_
      refine seq ?_
      have hk1 := hin (1 + k) (by omega)
      rw [← nth_drop l 1 k] at hk1
      have hb1 : 0 ≤ (bestTo (S.longer1 js) l k) ∧ (bestTo (S.longer1 js) l k) < (js.length : Int) := bestTo_in (l := l) (q := fun x : Int => 0 ≤ x ∧ x < (js.length : Int)) hin k (by omega)
      refine region ?_
      refine ops_y hH2 rfl rfl (yv_move rfl) ?_
      refine ops_y hH2 rfl rfl (yv_move rfl) ?_
      refine ops_y hH2 rfl rfl (yv_move rfl) ?_
      refine op_fnV rfl rfl rfl hH2 (c86 (k1.now hH2 (n := 0) rfl) (h1.now hH2 (n := 0) rfl) (by omega) (by omega)) (fun w4 hH5 => ?_)
      refine ops_nil ?_
      refine thn_n ?_
      by_cases hc6 : S.longer1 js (nth (l.drop 1) (k : Int)) (bestTo (S.longer1 js) l k) = true
      · skip
        have hp : S.longer1 js (nth (l.drop 1) (k : Int)) (bestTo (S.longer1 js) l k) = true := hc6
        refine cond_t rfl hc6 ?_
        refine region ?_
        refine ops_y hH5 rfl rfl (yv_move rfl) ?_
        refine ops_y hH5 rfl rfl (yv_assign rfl) ?_
        refine ops_nil ?_
        refine blk_n ?_
        refine thn_n ?_
        refine region ?_
        refine ops_y hH5 rfl rfl (yv_add rfl rfl (by omega)) ?_
        refine ops_y hH5 rfl rfl (yv_move rfl) ?_
        refine ops_nil ?_
        refine lp_n (k + 1) (Sub.cons rfl (Sub.cons (by first | (rw [bestTo_t hp]; rfl) | (rw [bestTo_f hp]; rfl)) (Sub.cons rfl (Sub.cons rfl (Sub.cons rfl (Sub.cons rfl (Sub.nil _))))))) ?_ ?_
        · exact ⟨hH5, by omega⟩
        · first | (dsimp only; omega) | (show _ < _; omega)
      · skip
        have hp : S.longer1 js (nth (l.drop 1) (k : Int)) (bestTo (S.longer1 js) l k) = false := (Bool.eq_false_iff.2 hc6)
        refine cond_f rfl (Bool.eq_false_iff.2 hc6) ?_
        refine skip ?_
        refine blk_n ?_
        refine thn_n ?_
        refine region ?_
        refine ops_y hH5 rfl rfl (yv_add rfl rfl (by omega)) ?_
        refine ops_y hH5 rfl rfl (yv_move rfl) ?_
        refine ops_nil ?_
        refine lp_n (k + 1) (Sub.cons rfl (Sub.cons (by first | (rw [bestTo_t hp]; rfl) | (rw [bestTo_f hp]; rfl)) (Sub.cons rfl (Sub.cons rfl (Sub.cons rfl (Sub.cons rfl (Sub.nil _))))))) ?_ ?_
        · exact ⟨hH5, by omega⟩
        · first | (dsimp only; omega) | (show _ < _; omega)
    · skip
      refine cond_f rfl (decide_eq_false hc3) ?_
      refine exit ?_
      refine thn_x ?_
      refine lp_x ?_
      refine blk_here ?_
      refine thn_n ?_
      refine seq ?_
      refine region ?_
      refine ops_y hH2 rfl rfl (yv_move rfl) ?_
      refine ops_y hH2 rfl rfl (yv_assign rfl) ?_
      refine ops_nil ?_
      refine thn_n ?_
      refine ret ?_
      refine fin hH2 (fun w' hf => (res1 rfl (show RV _ _ _ (.tmp 4) _ from rfl))) (fun w' hf => ?_)
      have hk2 : k = l.length - 1 := by omega
      subst hk2; rfl

theorem c87 {vj : Value} {js : List S.Pr} {x y : Int} {b1 : Nat} {w : World} (k1 : Bx b1 22 [vj] w) (h1 : Rd encP 2 vj js w) (hx : 0 ≤ x ∧ x < (js.length : Int)) (hy : 0 ≤ y ∧ y < (js.length : Int))  :
    Fn Try.prog 87 [(.int .i64 x), (.int .i64 y), (.pointer (some ⟨b1, 0, none⟩))].toArray w (fun u _ => u = .bool (S.longer2 js x y)) := by
  refine fn_of' (args := [(.int .i64 x), (.int .i64 y), (.pointer (some ⟨b1, 0, none⟩))]) Try.func87 rfl (ent Try.func87 (by kernel_rfl) rfl) rfl rfl (fun hH => ?_)
  refine seq ?_
  refine region ?_
  refine ops_y hH rfl rfl (yv_assign rfl) ?_
  refine ops_nil ?_
  refine thn_n ?_
  refine seq ?_
  refine region_draw (fun w' => Heap [base w] w') T.mixed (fun w1 hr2 => ?_)
  have hH3 := hH.redrawn hr2
  refine any_takes [0, 1, 2, 3, 4, 5, 6, 7, 8, 9, 10, 11] (by kernel_rfl) hH3 _ _ _ (by kernel_rfl) ?_
  refine qs_y rfl rfl (yv_load T.one22 rfl (fun _ hw => bx_cell (k1.now hw (n := 0) rfl) rfl)) ?_
  refine qs_y rfl rfl (yv_move rfl) ?_
  refine qs_y rfl rfl (yv_index T.sl22 rfl rfl (h1.now hH3 (n := 0) rfl).is (by omega)) ?_
  refine qs_y rfl rfl (yv_field T.f71_1 rfl) ?_
  refine qs_y rfl rfl (yv_load T.one2 rfl (fun _ hw => Rd.at (h1.now hw (n := 0) rfl) (i := x) (by omega) (j := 1) rfl)) ?_
  refine qs_y rfl rfl (yv_load T.one22 rfl (fun _ hw => bx_cell (k1.now hw (n := 0) rfl) rfl)) ?_
  refine qs_y rfl rfl (yv_move rfl) ?_
  refine qs_y rfl rfl (yv_index T.sl22 rfl rfl (h1.now hH3 (n := 0) rfl).is (by omega)) ?_
  refine qs_y rfl rfl (yv_field T.f71_1 rfl) ?_
  refine qs_y rfl rfl (yv_load T.one2 rfl (fun _ hw => Rd.at (h1.now hw (n := 0) rfl) (i := y) (by omega) (j := 1) rfl)) ?_
  refine qs_y rfl rfl (yv_gtr rfl rfl) ?_
  refine qs_y rfl rfl (yv_assign rfl) ?_
  refine qs_nil ?_
  refine any_done (by kernel_rfl) ?_
  refine thn_n ?_
  refine ret ?_
  refine fin hH3 (fun w' hf => (res1 rfl (show RV _ _ _ (.tmp 5) _ from rfl))) (fun w' hf => ?_)
  rfl

theorem c88_87 {v vj : Value} {l : List Int} {js : List S.Pr} {b1 : Nat} {w : World} (h0 : Rd encI 1 v l w) (k1 : Bx b1 22 [vj] w) (h1 : Rd encP 2 vj js w) (hn : 1 ≤ l.length) (hn2 : l.length ≤ 1000000) (hin : ∀ i, i < l.length → 0 ≤ nth l (i : Int) ∧ nth l (i : Int) < (js.length : Int))  :
    Fn Try.prog 88 [v, (.func (.func 87) #[] #[(.pointer (some ⟨b1, 0, none⟩))])].toArray w (fun u _ => u = .int .i64 (bestTo (S.longer2 js) l (l.length - 1))) := by
  refine fn_of' (args := [v, (.func (.func 87) #[] #[(.pointer (some ⟨b1, 0, none⟩))])]) Try.func88 rfl (ent Try.func88 (by kernel_rfl) rfl) rfl rfl (fun hH => ?_)
  have hd : (l.drop 1).length = l.length - 1 := List.length_drop
  refine seq ?_
  refine region ?_
  refine ops_y hH rfl rfl (yv_assign rfl) ?_
  refine ops_nil ?_
  refine thn_n ?_
  refine seq ?_
  refine region ?_
  refine ops_y hH rfl rfl (yv_move rfl) ?_
  refine ops_y hH rfl rfl (yv_index T.sl39 rfl rfl (h0.now hH (n := 0) rfl).is (by omega)) ?_
  refine ops_y hH rfl rfl (yv_load T.one3 rfl (fun _ hw => Rd.at (h0.now hw (n := 0) rfl) (i := 0) (by omega) (j := 0) rfl)) ?_
  refine ops_y hH rfl rfl (yv_assign rfl) ?_
  refine ops_nil ?_
  refine thn_n ?_
  refine seq ?_
  refine seq ?_
  refine region ?_
  refine ops_y hH rfl rfl (yv_move rfl) ?_
  refine ops_y hH rfl rfl (yv_cut_lo T.sl39 rfl rfl (h0.now hH (n := 0) rfl).is (by omega)) ?_
  refine ops_y hH rfl rfl (yv_len T.sl39 rfl (Rd.from (h0.now hH (n := 0) rfl) (lo := 1) (by omega)).is) ?_
  refine ops_y hH rfl rfl (yv_move rfl) ?_
  refine ops_nil ?_
  refine thn_n ?_
  refine block ?_
  refine loop (S := Nat) (fun k => [(14, (.int .i64 (k : Int))), (5, (.int .i64 (bestTo (S.longer2 js) l k))), (1, (.func (.func 87) #[] #[(.pointer (some ⟨b1, 0, none⟩))])), (4, (.int .i64 0)), (12, (cutv v 1 1 l.length)), (13, (.int .i64 ((l.drop 1).length : Int)))]) (fun k w1 => Heap [base w] w1 ∧ k ≤ (l.drop 1).length) (fun k => (l.drop 1).length - k) (0) (Sub.cons rfl (Sub.cons rfl (Sub.cons rfl (Sub.cons rfl (Sub.cons rfl (Sub.cons rfl (Sub.nil _))))))) ?_ ?_
  · exact ⟨hH, by omega⟩
  · rintro k w1 ⟨hH2, hk⟩
    show Holds _ _ _ _ _ [(14, (.int .i64 (k : Int))), (5, (.int .i64 (bestTo (S.longer2 js) l k))), (1, (.func (.func 87) #[] #[(.pointer (some ⟨b1, 0, none⟩))])), (4, (.int .i64 0)), (12, (cutv v 1 1 l.length)), (13, (.int .i64 ((l.drop 1).length : Int)))] _ _
    refine seq ?_
    refine region ?_
    refine ops_y hH2 rfl rfl (yv_lss rfl rfl) ?_
    refine ops_nil ?_
    refine thn_n ?_
    refine seq ?_
    by_cases hc3 : (k : Int) < ((l.drop 1).length : Int)
    · skip
      refine cond_t rfl (decide_eq_true hc3) ?_
      refine skip ?_
      refine thn_n ?_
      refine seq ?_
      refine block ?_
      refine seq ?_
      refine region ?_
      refine ops_y hH2 rfl rfl (yv_index T.sl39 rfl rfl (Rd.from (h0.now hH2 (n := 0) rfl) (lo := 1) (by omega)).is (by omega)) ?_
      refine ops_y hH2 rfl rfl (yv_load T.one3 rfl (fun _ hw => Rd.at (Rd.from (h0.now hw (n := 0) rfl) (lo := 1) (by omega)) (i := (k : Int)) (by omega) (j := 0) rfl)) ?_
      refine ops_y hH2 rfl rfl (yv_assign rfl) ?_
      refine ops_nil ?_
      refine thn_n ?_
      refine seq ?_
      have hk1 := hin (1 + k) (by omega)
      rw [← nth_drop l 1 k] at hk1
      have hb1 : 0 ≤ (bestTo (S.longer2 js) l k) ∧ (bestTo (S.longer2 js) l k) < (js.length : Int) := bestTo_in (l := l) (q := fun x : Int => 0 ≤ x ∧ x < (js.length : Int)) hin k (by omega)
      refine region ?_
      refine ops_y hH2 rfl rfl (yv_move rfl) ?_
      refine ops_y hH2 rfl rfl (yv_move rfl) ?_
      refine ops_y hH2 rfl rfl (yv_move rfl) ?_
      refine op_fnV rfl rfl rfl hH2 (c87 (k1.now hH2 (n := 0) rfl) (h1.now hH2 (n := 0) rfl) (by omega) (by omega)) (fun w4 hH5 => ?_)
      refine ops_nil ?_
      refine thn_n ?_
      by_cases hc6 : S.longer2 js (nth (l.drop 1) (k : Int)) (bestTo (S.longer2 js) l k) = true
      · skip
        have hp : S.longer2 js (nth (l.drop 1) (k : Int)) (bestTo (S.longer2 js) l k) = true := hc6
        refine cond_t rfl hc6 ?_
        refine region ?_
        refine ops_y hH5 rfl rfl (yv_move rfl) ?_
        refine ops_y hH5 rfl rfl (yv_assign rfl) ?_
        refine ops_nil ?_
        refine blk_n ?_
        refine thn_n ?_
        refine region ?_
        refine ops_y hH5 rfl rfl (yv_add rfl rfl (by omega)) ?_
        refine ops_y hH5 rfl rfl (yv_move rfl) ?_
        refine ops_nil ?_
        refine lp_n (k + 1) (Sub.cons rfl (Sub.cons (by first | (rw [bestTo_t hp]; rfl) | (rw [bestTo_f hp]; rfl)) (Sub.cons rfl (Sub.cons rfl (Sub.cons rfl (Sub.cons rfl (Sub.nil _))))))) ?_ ?_
        · exact ⟨hH5, by omega⟩
        · first | (dsimp only; omega) | (show _ < _; omega)
      · skip
        have hp : S.longer2 js (nth (l.drop 1) (k : Int)) (bestTo (S.longer2 js) l k) = false := (Bool.eq_false_iff.2 hc6)
        refine cond_f rfl (Bool.eq_false_iff.2 hc6) ?_
        refine skip ?_
        refine blk_n ?_
        refine thn_n ?_
        refine region ?_
        refine ops_y hH5 rfl rfl (yv_add rfl rfl (by omega)) ?_
        refine ops_y hH5 rfl rfl (yv_move rfl) ?_
        refine ops_nil ?_
        refine lp_n (k + 1) (Sub.cons rfl (Sub.cons (by first | (rw [bestTo_t hp]; rfl) | (rw [bestTo_f hp]; rfl)) (Sub.cons rfl (Sub.cons rfl (Sub.cons rfl (Sub.cons rfl (Sub.nil _))))))) ?_ ?_
        · exact ⟨hH5, by omega⟩
        · first | (dsimp only; omega) | (show _ < _; omega)
    · skip
      refine cond_f rfl (decide_eq_false hc3) ?_
      refine exit ?_
      refine thn_x ?_
      refine lp_x ?_
      refine blk_here ?_
      refine thn_n ?_
      refine seq ?_
      refine region ?_
      refine ops_y hH2 rfl rfl (yv_move rfl) ?_
      refine ops_y hH2 rfl rfl (yv_assign rfl) ?_
      refine ops_nil ?_
      refine thn_n ?_
      refine ret ?_
      refine fin hH2 (fun w' hf => (res1 rfl (show RV _ _ _ (.tmp 4) _ from rfl))) (fun w' hf => ?_)
      have hk2 : k = l.length - 1 := by omega
      subst hk2; rfl

theorem c90 {v vb vt : Value} {js : List S.Pr} {B U : List Int} {one b : Int} {w : World} (h0 : Rd encP 2 v js w) (hB : Rd encI 1 vb B w) (hT : Rd encI 1 vt U w) (hn : js.length ≤ 1000) (hb : 0 ≤ b ∧ b ≤ 1)  :
    Fn Try.prog 90 [v, vb, vt, (.int .i64 one), (.int .i64 b)].toArray w (fun u w => ∃ f, u = .agg #[vb, vt, f] ∧ Own 3 1 encI f (S.firstsTo one b js.length) w) := by
  refine fn_of' (args := [v, vb, vt, (.int .i64 one), (.int .i64 b)]) Try.func90 rfl (ent Try.func90 (by kernel_rfl) rfl) rfl rfl (fun hH => ?_)
  obtain ⟨ab, cb, hvb, _⟩ := hB.is
  obtain ⟨at_, ct, hvt, _⟩ := hT.is
  refine seq ?_
  refine region ?_
  refine op_alloc (z := (.agg #[(.slice none 0 0), (.slice none 0 0), (.slice none 0 0)])) (us := [(.slice none 0 0), (.slice none 0 0), (.slice none 0 0)]) (fun _ => by kernel_rfl) rfl rfl hH (fun b1 w2 hH3 => ?_)
  refine ops_nil ?_
  refine thn_n ?_
  refine seq ?_
  refine region ?_
  refine ops_y hH3 rfl rfl (yv_move rfl) ?_
  refine ops_y hH3 rfl rfl (yv_move rfl) ?_
  refine ops_y hH3 rfl rfl (yv_build (v := (.agg #[vb, vt, (.slice none 0 0)])) (us := [(0, vb), (1, vt)]) (fun a ha => by simp [ha.ev (show ev _ (.tmp 14) = some _ from rfl), ha.ev (show ev _ (.tmp 15) = some _ from rfl)]) (fun w => by rw [hvb, hvt]; kernel_rfl)) ?_
  refine op_alloc (z := (.agg #[(.slice none 0 0), (.slice none 0 0), (.slice none 0 0)])) (us := [(.slice none 0 0), (.slice none 0 0), (.slice none 0 0)]) (fun _ => by kernel_rfl) rfl rfl hH3 (fun b4 w5 hH6 => ?_)
  refine op_store (n := 0) (j := 0) (us := [vb, vt, (.slice none 0 0)]) rfl rfl hH6 rfl T.sz41 rfl rfl rfl (all_one (SliceIs.one1 (hB.now hH6 (n := 2) rfl).is) (all_one (SliceIs.one1 (hT.now hH6 (n := 2) rfl).is) (all_one rfl rfl))) (fun w7 hH8 => ?_)
  refine ops_nil ?_
  refine thn_n ?_
  refine seq ?_
  refine seq ?_
  refine region ?_
  refine ops_y hH8 rfl rfl (yv_move rfl) ?_
  refine ops_y hH8 rfl rfl (yv_len T.sl22 rfl (h0.now hH8 (n := 2) rfl).is) ?_
  refine ops_y hH8 rfl rfl (yv_move rfl) ?_
  refine ops_nil ?_
  refine thn_n ?_
  refine block ?_
  have hH9 := ow_nil (enc := encI) 3 1 hH8
  refine loop (S := Nat × Value × Nat × Nat) (fun (k, v_b11, lo_b11, hi_b11) => [(19, (.int .i64 (k : Int))), (3, (.int .i64 one)), (4, (.int .i64 b)), (10, (.pointer (some ⟨b1, 0, none⟩))), (11, (.pointer (some ⟨b4, 0, none⟩))), (18, (.int .i64 (js.length : Int)))]) (fun (k, v_b11, lo_b11, hi_b11) w1 => Heap [ow lo_b11 hi_b11 3 1 encI v_b11 (S.firstsTo one b k), bx b4 41 [vb, vt, v_b11], bx b1 41 [(.slice none 0 0), (.slice none 0 0), (.slice none 0 0)], base w] w1 ∧ k ≤ js.length) (fun (k, v_b11, lo_b11, hi_b11) => js.length - k) (0, (.slice none 0 0), w7.heap.size, w7.heap.size) (Sub.cons rfl (Sub.cons rfl (Sub.cons rfl (Sub.cons rfl (Sub.cons rfl (Sub.cons rfl (Sub.nil _))))))) ?_ ?_
  · exact ⟨hH9, by omega⟩
  · rintro ⟨k, v_b11, lo_b11, hi_b11⟩ w10 ⟨hH11, hk⟩
    show Holds _ _ _ _ _ [(19, (.int .i64 (k : Int))), (3, (.int .i64 one)), (4, (.int .i64 b)), (10, (.pointer (some ⟨b1, 0, none⟩))), (11, (.pointer (some ⟨b4, 0, none⟩))), (18, (.int .i64 (js.length : Int)))] _ _
    refine seq ?_
    refine region ?_
    refine ops_y hH11 rfl rfl (yv_lss rfl rfl) ?_
    refine ops_nil ?_
    refine thn_n ?_
    refine seq ?_
    by_cases hc12 : (k : Int) < (js.length : Int)
    · skip
      refine cond_t rfl (decide_eq_true hc12) ?_
      refine skip ?_
      refine thn_n ?_
      refine seq ?_
      refine block ?_
      refine seq ?_
      refine region ?_
      refine ops_y hH11 rfl rfl (yv_move rfl) ?_
      refine ops_y hH11 rfl rfl (yv_assign rfl) ?_
      refine ops_nil ?_
      refine thn_n ?_
      refine seq ?_
      refine region ?_
      refine ops_y hH11 rfl rfl (yv_move rfl) ?_
      refine ops_y hH11 rfl rfl (yv_sub rfl rfl (by omega)) ?_
      refine ops_y hH11 rfl rfl (yv_assign rfl) ?_
      refine ops_nil ?_
      refine thn_n ?_
      refine seq ?_
      refine seq ?_
      refine region ?_
      refine ops_y hH11 rfl rfl (yv_move rfl) ?_
      refine ops_y hH11 rfl rfl (yv_move rfl) ?_
      refine ops_y hH11 rfl rfl (yv_eql rfl rfl) ?_
      refine ops_nil ?_
      refine thn_n ?_
      by_cases hc13 : (k : Int) = one
      · skip
        refine cond_t rfl (decide_eq_true hc13) ?_
        refine region ?_
        refine ops_y hH11 rfl rfl (yv_move rfl) ?_
        refine ops_y hH11 rfl rfl (yv_assign rfl) ?_
        refine ops_nil ?_
        refine thn_n ?_
        have hfl := S.firstsTo_length one b k
        refine region ?_
        refine ops_y hH11 rfl rfl (yv_field T.f41_2 rfl) ?_
        refine ops_y hH11 rfl rfl (yv_load T.one39 rfl (fun _ hw => Heap.cellw hw (n := 1) rfl rfl)) ?_
        refine ops_y hH11 rfl rfl (yv_move rfl) ?_
        refine op_lit (us := [(0, (.int .i64 b))]) T.el39_encI [b] rfl (by decide) rfl (fun a ha => by simp [ha.ev (show ev _ (.tmp 30) = some _ from rfl)]) (fun w => by kernel_rfl) hH11 (fun u14 lo16 hi17 w15 hH18 => ?_)
        refine op_append (n := 1) T.el39_encI rfl rfl rfl hH18 rfl (Heap.rdw T.el39_encI hH18 (n := 0) rfl) (by first | omega | (simp only [List.length_append, List.length_cons, List.length_nil]; omega)) (fun u19 lo21 hi22 w20 hH23 => ?_)
        refine ops_y hH23 rfl rfl (yv_field T.f41_2 rfl) ?_
        refine op_store (n := 2) (j := 2) (us := [u19]) rfl rfl hH23 rfl T.sz39 (SliceIs.cells (Heap.rdw T.el39_encI hH23 (n := 1) rfl).is) rfl rfl (SliceIs.one (Heap.rdw T.el39_encI hH23 (n := 1) rfl).is) (fun w24 hH25 => ?_)
        refine ops_nil ?_
        refine blk_n ?_
        refine thn_n ?_
        refine region ?_
        refine ops_y hH25 rfl rfl (yv_add rfl rfl (by omega)) ?_
        refine ops_y hH25 rfl rfl (yv_move rfl) ?_
        refine ops_nil ?_
        have hH26 := (hH25.sub (List.Sublist.cons _ (List.Sublist.refl _)))
        refine lp_n (k + 1, u19, lo21, hi22) (Sub.cons rfl (Sub.cons rfl (Sub.cons rfl (Sub.cons rfl (Sub.cons rfl (Sub.cons rfl (Sub.nil _))))))) ?_ ?_
        · exact ⟨(Heap.recast (n := 0) hH26 rfl (by first | (rw [S.firsts_t ‹_›]; done) | (rw [S.firsts_f ‹_›]; done))), by omega⟩
        · first | (dsimp only; omega) | (show _ < _; omega)
      · skip
        refine cond_f rfl (decide_eq_false hc13) ?_
        refine skip ?_
        refine thn_n ?_
        have hfl := S.firstsTo_length one b k
        refine region ?_
        refine ops_y hH11 rfl rfl (yv_field T.f41_2 rfl) ?_
        refine ops_y hH11 rfl rfl (yv_load T.one39 rfl (fun _ hw => Heap.cellw hw (n := 1) rfl rfl)) ?_
        refine ops_y hH11 rfl rfl (yv_move rfl) ?_
        refine op_lit (us := [(0, (.int .i64 (1 - b)))]) T.el39_encI [1 - b] rfl (by decide) rfl (fun a ha => by simp [ha.ev (show ev _ (.tmp 30) = some _ from rfl)]) (fun w => by kernel_rfl) hH11 (fun u27 lo29 hi30 w28 hH31 => ?_)
        refine op_append (n := 1) T.el39_encI rfl rfl rfl hH31 rfl (Heap.rdw T.el39_encI hH31 (n := 0) rfl) (by first | omega | (simp only [List.length_append, List.length_cons, List.length_nil]; omega)) (fun u32 lo34 hi35 w33 hH36 => ?_)
        refine ops_y hH36 rfl rfl (yv_field T.f41_2 rfl) ?_
        refine op_store (n := 2) (j := 2) (us := [u32]) rfl rfl hH36 rfl T.sz39 (SliceIs.cells (Heap.rdw T.el39_encI hH36 (n := 1) rfl).is) rfl rfl (SliceIs.one (Heap.rdw T.el39_encI hH36 (n := 1) rfl).is) (fun w37 hH38 => ?_)
        refine ops_nil ?_
        refine blk_n ?_
        refine thn_n ?_
        refine region ?_
        refine ops_y hH38 rfl rfl (yv_add rfl rfl (by omega)) ?_
        refine ops_y hH38 rfl rfl (yv_move rfl) ?_
        refine ops_nil ?_
        have hH39 := (hH38.sub (List.Sublist.cons _ (List.Sublist.refl _)))
        refine lp_n (k + 1, u32, lo34, hi35) (Sub.cons rfl (Sub.cons rfl (Sub.cons rfl (Sub.cons rfl (Sub.cons rfl (Sub.cons rfl (Sub.nil _))))))) ?_ ?_
        · exact ⟨(Heap.recast (n := 0) hH39 rfl (by first | (rw [S.firsts_t ‹_›]; done) | (rw [S.firsts_f ‹_›]; done))), by omega⟩
        · first | (dsimp only; omega) | (show _ < _; omega)
    · skip
      refine cond_f rfl (decide_eq_false hc12) ?_
      refine exit ?_
      refine thn_x ?_
      refine lp_x ?_
      refine blk_here ?_
      refine thn_n ?_
      refine seq ?_
      refine region ?_
      refine ops_y hH11 rfl rfl (yv_loadA (cs := [vb, vt, v_b11]) T.agg41 rfl rfl (fun _ hw => Heap.cellsw hw (n := 1) rfl (k := 0) rfl)) ?_
      refine op_store (n := 2) (j := 0) (us := [vb, vt, v_b11]) rfl rfl hH11 rfl T.sz41 rfl rfl rfl (all_one (SliceIs.one1 (hB.now hH11 (n := 3) rfl).is) (all_one (SliceIs.one1 (hT.now hH11 (n := 3) rfl).is) (all_one (SliceIs.one1 (Heap.rdw T.el39_encI hH11 (n := 0) rfl).is) rfl))) (fun w40 hH41 => ?_)
      refine ops_nil ?_
      refine thn_n ?_
      refine ret ?_
      have hH42 := (hH41.sub (List.Sublist.cons_cons _ (List.Sublist.cons _ (List.Sublist.refl _))))
      refine fin (hH42.front (n := 2) rfl) (fun w' hf => (res1 rfl (rvA (cs := [vb, vt, v_b11]) rfl T.agg41 rfl (bx_cells (Heap.bxw hf (n := 2) rfl) (k := 0) rfl)))) (fun w' hf => ?_)
      have hk2 : k = js.length := by omega
      subst hk2; exact ⟨_, rfl, Heap.own hf (n := 0) rfl⟩

end Go.Fip
