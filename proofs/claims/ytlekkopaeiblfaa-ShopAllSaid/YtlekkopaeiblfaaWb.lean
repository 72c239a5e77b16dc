/- Walks, by program (wip/tools). -/
import Derived.Test.YtlekkopaeiblfaaWa
set_option linter.unusedVariables false
set_option linter.unusedSimpArgs false
set_option linter.unusedSectionVars false
set_option linter.unnecessarySimpa false
namespace Go.Fip
open Go.Proofs Go.RowKit

theorem bool_dec {p q : Prop} [Decidable p] [Decidable q] (h : p ↔ q) : Value.bool (decide p) = Value.bool (decide q) := congrArg _ (decide_eq_decide.2 h)

theorem inside_iff {l : List Int} {lo hi : Int} : (∀ i, i < l.length → (fun x : Int => decide (x < lo ∨ hi < x)) (nth l (i : Int)) = false) ↔ ∀ x ∈ l, lo ≤ x ∧ x ≤ hi := by
  constructor
  · intro h x hx
    obtain ⟨i, hi', rfl⟩ := List.getElem_of_mem hx
    have := h i hi'
    rw [nth_nat hi'] at this
    simp at this
    omega
  · intro h i hi'
    have := h (nth l (i : Int)) (by rw [nth_nat hi']; exact List.getElem_mem hi')
    simp
    omega
theorem odd_job {l : List S.Pr} (h : has (fun x => !decide (S.okJob x)) l = true) : ¬ S.AllJ l := by
  obtain ⟨i, hi, hp⟩ := has_iff.1 h
  intro h2
  have := h2 i hi
  simp [this] at hp
theorem not_odd_job {l : List S.Pr} (h : ¬ has (fun x => !decide (S.okJob x)) l = true) : S.AllJ l := by
  have h := has_not.1 (Bool.eq_false_iff.2 h)
  intro i hi
  simpa using h i hi
theorem odd_time {l : List S.Pr} (h : has (fun x => !decide (S.okTime x)) l = true) : ¬ S.AllT l := by
  obtain ⟨i, hi, hp⟩ := has_iff.1 h
  intro h2
  have := h2 i hi
  simp [this] at hp
theorem not_odd_time {l : List S.Pr} (h : ¬ has (fun x => !decide (S.okTime x)) l = true) : S.AllT l := by
  have h := has_not.1 (Bool.eq_false_iff.2 h)
  intro i hi
  simpa using h i hi

theorem c83 {n : Int} {lo hi : Int} {b1 b2 : Nat} {w : World} (k1 : Bx b1 2 [.int .i64 lo] w) (k2 : Bx b2 2 [.int .i64 hi] w)  :
    Fn Try.prog 83 [(.int .i64 n), (.pointer (some ⟨b1, 0, none⟩)), (.pointer (some ⟨b2, 0, none⟩))].toArray w (fun u _ => u = .bool (decide (n < lo ∨ hi < n))) := by
  refine fn_of' (args := [(.int .i64 n), (.pointer (some ⟨b1, 0, none⟩)), (.pointer (some ⟨b2, 0, none⟩))]) Try.func83 rfl (ent Try.func83 (by kernel_rfl) rfl) rfl rfl (fun hH => ?_)
  refine seq ?_
  refine region ?_
  refine ops_y hH rfl rfl (yv_assign rfl) ?_
  refine ops_nil ?_
  refine thn_n ?_
  refine seq ?_
  refine region ?_
  refine ops_y hH rfl rfl (yv_move rfl) ?_
  refine ops_y hH rfl rfl (yv_load T.one2 rfl (fun _ hw => bx_cell (k1.now hw (n := 0) rfl) rfl)) ?_
  refine ops_y hH rfl rfl (yv_lss rfl rfl) ?_
  refine ops_y hH rfl rfl (yv_move rfl) ?_
  by_cases hc1 : n < lo
  · skip
    refine guard_no rfl rfl (decide_eq_true hc1) rfl ?_
    refine guard_no rfl rfl (decide_eq_true hc1) rfl ?_
    refine guard_no rfl rfl (decide_eq_true hc1) rfl ?_
    refine ops_y hH rfl rfl (yv_pick_t rfl (decide_eq_true hc1) rfl) ?_
    refine ops_y hH rfl rfl (yv_assign rfl) ?_
    refine ops_nil ?_
    refine thn_n ?_
    refine ret ?_
    refine fin hH (fun w' hf => (res1 rfl (show RV _ _ _ (.tmp 4) _ from rfl))) (fun w' hf => ?_)
    first | (show Value.bool _ = Value.bool _; congr 1; rw [Bool.eq_iff_iff]; simp; done) | (show Value.bool _ = Value.bool _; congr 1; rw [Bool.eq_iff_iff]; simp; omega)
  · skip
    refine guard_yes rfl rfl (decide_eq_false hc1) ?_
    refine ops_y hH rfl rfl (yv_move rfl) ?_
    refine guard_yes rfl rfl (decide_eq_false hc1) ?_
    refine ops_y hH rfl rfl (yv_load T.one2 rfl (fun _ hw => bx_cell (k2.now hw (n := 0) rfl) rfl)) ?_
    refine guard_yes rfl rfl (decide_eq_false hc1) ?_
    refine ops_y hH rfl rfl (yv_gtr rfl rfl) ?_
    refine ops_y hH rfl rfl (yv_pick_f rfl (decide_eq_false hc1) rfl) ?_
    refine ops_y hH rfl rfl (yv_assign rfl) ?_
    refine ops_nil ?_
    refine thn_n ?_
    refine ret ?_
    refine fin hH (fun w' hf => (res1 rfl (show RV _ _ _ (.tmp 4) _ from rfl))) (fun w' hf => ?_)
    first | (show Value.bool _ = Value.bool _; congr 1; rw [Bool.eq_iff_iff]; simp; done) | (show Value.bool _ = Value.bool _; congr 1; rw [Bool.eq_iff_iff]; simp; omega)

theorem c99 {v : Value} {l : List Int} {lo hi : Int} {b1 b2 : Nat} {w : World} (h0 : Rd encI 1 v l w) (k1 : Bx b1 2 [.int .i64 lo] w) (k2 : Bx b2 2 [.int .i64 hi] w) (hn : l.length ≤ 1000000)  :
    Fn Try.prog 99 [v, (.func (.func 83) #[] #[(.pointer (some ⟨b1, 0, none⟩)), (.pointer (some ⟨b2, 0, none⟩))])].toArray w (fun u _ => u = .int .i64 (idx (fun x : Int => decide (x < lo ∨ hi < x)) l)) := by
  refine fn_of' (args := [v, (.func (.func 83) #[] #[(.pointer (some ⟨b1, 0, none⟩)), (.pointer (some ⟨b2, 0, none⟩))])]) Try.func99 rfl (ent Try.func99 (by kernel_rfl) rfl) rfl rfl (fun hH => ?_)
  refine seq ?_
  refine region ?_
  refine ops_y hH rfl rfl (yv_assign rfl) ?_
  refine ops_nil ?_
  refine thn_n ?_
  refine seq ?_
  refine seq ?_
  refine region ?_
  refine ops_y hH rfl rfl (yv_move rfl) ?_
  refine ops_y hH rfl rfl (yv_len T.sl116 rfl (h0.now hH (n := 0) rfl).is) ?_
  refine ops_y hH rfl rfl (yv_move rfl) ?_
  refine ops_nil ?_
  refine thn_n ?_
  refine block ?_
  refine loop (S := Nat) (fun k => [(8, (.int .i64 (k : Int))), (0, v), (1, (.func (.func 83) #[] #[(.pointer (some ⟨b1, 0, none⟩)), (.pointer (some ⟨b2, 0, none⟩))])), (7, (.int .i64 (l.length : Int)))]) (fun k w1 => Heap [base w] w1 ∧ k ≤ l.length ∧ ∀ i, i < k → (fun x : Int => decide (x < lo ∨ hi < x)) (nth l (i : Int)) = false) (fun k => l.length - k) (0) (Sub.cons rfl (Sub.cons rfl (Sub.cons rfl (Sub.cons rfl (Sub.nil _))))) ?_ ?_
  · exact ⟨hH, by omega, S.all_zero⟩
  · rintro k w1 ⟨hH2, hk, hall⟩
    show Holds _ _ _ _ _ [(8, (.int .i64 (k : Int))), (0, v), (1, (.func (.func 83) #[] #[(.pointer (some ⟨b1, 0, none⟩)), (.pointer (some ⟨b2, 0, none⟩))])), (7, (.int .i64 (l.length : Int)))] _ _
    refine seq ?_
    refine region ?_
    refine ops_y hH2 rfl rfl (yv_lss rfl rfl) ?_
    refine ops_nil ?_
    refine thn_n ?_
    refine seq ?_
    by_cases hc3 : (k : Int) < (l.length : Int)
    · skip
      refine cond_t rfl (decide_eq_true hc3) ?_
      refine skip ?_
      refine thn_n ?_
      refine seq ?_
      refine block ?_
      refine seq ?_
      refine region ?_
      refine ops_y hH2 rfl rfl (yv_move rfl) ?_
      refine ops_y hH2 rfl rfl (yv_assign rfl) ?_
      refine ops_nil ?_
      refine thn_n ?_
      refine seq ?_
      refine region ?_
      refine ops_y hH2 rfl rfl (yv_move rfl) ?_
      refine ops_y hH2 rfl rfl (yv_move rfl) ?_
      refine ops_y hH2 rfl rfl (yv_move rfl) ?_
      refine ops_y hH2 rfl rfl (yv_index T.sl116 rfl rfl (h0.now hH2 (n := 0) rfl).is (by omega)) ?_
      refine ops_y hH2 rfl rfl (yv_load T.one2 rfl (fun _ hw => Rd.at (h0.now hw (n := 0) rfl) (i := (k : Int)) (by omega) (j := 0) rfl)) ?_
      refine op_fnV rfl rfl rfl hH2 (c83 (k1.now hH2 (n := 0) rfl) (k2.now hH2 (n := 0) rfl)) (fun w4 hH5 => ?_)
      refine ops_nil ?_
      refine thn_n ?_
      by_cases hc6 : nth l (k : Int) < lo ∨ hi < nth l (k : Int)
      · skip
        have hp : (fun x : Int => decide (x < lo ∨ hi < x)) (nth l (k : Int)) = true := (decide_eq_true hc6)
        refine cond_t rfl (decide_eq_true hc6) ?_
        refine seq ?_
        refine region ?_
        refine ops_y hH5 rfl rfl (yv_move rfl) ?_
        refine ops_y hH5 rfl rfl (yv_assign rfl) ?_
        refine ops_nil ?_
        refine thn_n ?_
        refine ret ?_
        refine blk_r ?_
        refine thn_r ?_
        refine lp_r ?_
        refine blk_r ?_
        refine thn_r ?_
        refine fin hH5 (fun w' hf => (res1 rfl (show RV _ _ _ (.tmp 4) _ from rfl))) (fun w' hf => ?_)
        first | exact congrArg (Value.int .i64) (idx_hit (k := k) (by omega) hall hp).symm | exact congrArg (Value.int .i64) (idx_miss (fun i hi => hall i (by omega))).symm
      · skip
        have hp : (fun x : Int => decide (x < lo ∨ hi < x)) (nth l (k : Int)) = false := (decide_eq_false hc6)
        refine cond_f rfl (decide_eq_false hc6) ?_
        refine skip ?_
        refine blk_n ?_
        refine thn_n ?_
        refine region ?_
        refine ops_y hH5 rfl rfl (yv_add rfl rfl (by omega)) ?_
        refine ops_y hH5 rfl rfl (yv_move rfl) ?_
        refine ops_nil ?_
        refine lp_n (k + 1) (Sub.cons rfl (Sub.cons rfl (Sub.cons rfl (Sub.cons rfl (Sub.nil _))))) ?_ ?_
        · exact ⟨hH5, by omega, S.all_snoc hall hp⟩
        · first | (dsimp only; omega) | (show _ < _; omega)
    · skip
      refine cond_f rfl (decide_eq_false hc3) ?_
      refine exit ?_
      refine thn_x ?_
      refine lp_x ?_
      refine blk_here ?_
      refine thn_n ?_
      refine seq ?_
      refine region ?_
      refine ops_y hH2 rfl rfl (yv_assign rfl) ?_
      refine ops_nil ?_
      refine thn_n ?_
      refine ret ?_
      refine fin hH2 (fun w' hf => (res1 rfl (show RV _ _ _ (.tmp 4) _ from rfl))) (fun w' hf => ?_)
      first | exact congrArg (Value.int .i64) (idx_hit (k := k) (by omega) hall hp).symm | exact congrArg (Value.int .i64) (idx_miss (fun i hi => hall i (by omega))).symm

theorem c82 {v : Value} {l : List Int} {lo hi : Int} {b1 b2 : Nat} {w : World} (h0 : Rd encI 1 v l w) (k1 : Bx b1 2 [.int .i64 lo] w) (k2 : Bx b2 2 [.int .i64 hi] w) (hn : l.length ≤ 1000000)  :
    Fn Try.prog 82 [v, (.func (.func 83) #[] #[(.pointer (some ⟨b1, 0, none⟩)), (.pointer (some ⟨b2, 0, none⟩))])].toArray w (fun u _ => u = .bool (has (fun x : Int => decide (x < lo ∨ hi < x)) l)) := by
  refine fn_of' (args := [v, (.func (.func 83) #[] #[(.pointer (some ⟨b1, 0, none⟩)), (.pointer (some ⟨b2, 0, none⟩))])]) Try.func82 rfl (ent Try.func82 (by kernel_rfl) rfl) rfl rfl (fun hH => ?_)
  refine seq ?_
  refine region ?_
  refine ops_y hH rfl rfl (yv_assign rfl) ?_
  refine ops_nil ?_
  refine thn_n ?_
  refine seq ?_
  refine region ?_
  refine ops_y hH rfl rfl (yv_move rfl) ?_
  refine ops_y hH rfl rfl (yv_move rfl) ?_
  refine op_fnV rfl rfl rfl hH (c99 (h0.now hH (n := 0) rfl) (k1.now hH (n := 0) rfl) (k2.now hH (n := 0) rfl) (by omega)) (fun w1 hH2 => ?_)
  refine ops_y hH2 rfl rfl (yv_geq rfl rfl) ?_
  refine ops_y hH2 rfl rfl (yv_assign rfl) ?_
  refine ops_nil ?_
  refine thn_n ?_
  refine ret ?_
  refine fin hH2 (fun w' hf => (res1 rfl (show RV _ _ _ (.tmp 4) _ from rfl))) (fun w' hf => ?_)
  rfl

theorem c56 {v : Value} {l : List Int} {lo hi : Int} {w : World} (h0 : Rd encI 1 v l w) (hn : l.length ≤ 1000000)  :
    Fn Try.prog 56 [(.int .i64 lo), (.int .i64 hi), v].toArray w (fun u _ => u = .bool (decide (∀ x ∈ l, lo ≤ x ∧ x ≤ hi))) := by
  refine fn_of' (args := [(.int .i64 lo), (.int .i64 hi), v]) Try.func56 rfl (ent Try.func56 (by kernel_rfl) rfl) rfl rfl (fun hH => ?_)
  refine seq ?_
  refine region ?_
  refine op_box (us := [(.int .i64 lo)]) rfl rfl rfl hH (fun b1 w2 hH3 => ?_)
  refine op_box (us := [(.int .i64 hi)]) rfl rfl rfl hH3 (fun b4 w5 hH6 => ?_)
  refine ops_y hH6 rfl rfl (yv_assign rfl) ?_
  refine ops_nil ?_
  refine thn_n ?_
  refine seq ?_
  refine region ?_
  refine ops_y hH6 rfl rfl (yv_move rfl) ?_
  refine ops_y hH6 rfl rfl (yv_func rfl rfl) ?_
  refine op_fnV rfl rfl rfl hH6 (c82 (h0.now hH6 (n := 2) rfl) (Heap.bxw hH6 (n := 1) rfl) (Heap.bxw hH6 (n := 0) rfl) hn) (fun w7 hH8 => ?_)
  refine ops_y hH8 rfl rfl (yv_not rfl) ?_
  refine ops_y hH8 rfl rfl (yv_assign rfl) ?_
  refine ops_nil ?_
  refine thn_n ?_
  refine ret ?_
  have hH9 := (hH8.sub (List.Sublist.cons _ (List.Sublist.cons _ (List.Sublist.refl _))))
  refine fin hH9 (fun w' hf => (res1 rfl (show RV _ _ _ (.tmp 6) _ from rfl))) (fun w' hf => ?_)
  refine congrArg Value.bool ?_; rw [Bool.eq_iff_iff, Bool.not_eq_true', has_not, decide_eq_true_eq]; exact inside_iff

theorem c56_1 {v : Value} {a lo hi : Int} {w : World} (h0 : Rd encI 1 v [a] w) : Fn Try.prog 56 [.int .i64 lo, .int .i64 hi, v].toArray w (fun u _ => u = .bool (decide (lo ≤ a ∧ a ≤ hi))) := by
  have h := c56 (lo := lo) (hi := hi) h0 (by simp)
  rwa [show decide (∀ x ∈ [a], lo ≤ x ∧ x ≤ hi) = decide (lo ≤ a ∧ a ≤ hi) from decide_eq_decide.2 (by simp)] at h
theorem c56_2 {v : Value} {a b lo hi : Int} {w : World} (h0 : Rd encI 1 v [a, b] w) : Fn Try.prog 56 [.int .i64 lo, .int .i64 hi, v].toArray w (fun u _ => u = .bool (decide ((lo ≤ a ∧ a ≤ hi) ∧ (lo ≤ b ∧ b ≤ hi)))) := by
  have h := c56 (lo := lo) (hi := hi) h0 (by simp)
  rwa [show decide (∀ x ∈ [a, b], lo ≤ x ∧ x ≤ hi) = decide ((lo ≤ a ∧ a ≤ hi) ∧ (lo ≤ b ∧ b ≤ hi)) from decide_eq_decide.2 (by simp)] at h

theorem c63 {a b : Int} {w : World}  :
    Fn Try.prog 63 [(.agg #[(.int .i64 a), (.int .i64 b)])].toArray w (fun u _ => u = .bool (!decide (S.okJob (a, b)))) := by
  refine fn_of' (args := [(.agg #[(.int .i64 a), (.int .i64 b)])]) Try.func63 rfl (ent Try.func63 (by kernel_rfl) rfl) rfl rfl (fun hH => ?_)
  refine seq ?_
  refine region ?_
  refine op_box (us := [(.int .i64 a), (.int .i64 b)]) rfl rfl rfl hH (fun b1 w2 hH3 => ?_)
  refine ops_y hH3 rfl rfl (yv_assign rfl) ?_
  refine ops_nil ?_
  refine thn_n ?_
  refine seq ?_
  refine region ?_
  refine ops_y hH3 rfl rfl (yv_field T.f71_0 rfl) ?_
  refine ops_y hH3 rfl rfl (yv_load T.one2 rfl (fun _ hw => Heap.cellw hw (n := 0) rfl rfl)) ?_
  refine ops_y hH3 rfl rfl (yv_field T.f71_1 rfl) ?_
  refine ops_y hH3 rfl rfl (yv_load T.one2 rfl (fun _ hw => Heap.cellw hw (n := 0) rfl rfl)) ?_
  refine op_lit (us := [(0, (.int .i64 a)), (1, (.int .i64 b))]) T.el116_encI [a, b] rfl (by decide) rfl (fun a ha => by simp [ha.ev (show ev _ (.tmp 4) = some _ from rfl), ha.ev (show ev _ (.tmp 6) = some _ from rfl)]) (fun w => by kernel_rfl) hH3 (fun u4 lo6 hi7 w5 hH8 => ?_)
  refine op_fnV rfl rfl rfl hH8 (c56_2 (Heap.rdw T.el116_encI hH8 (n := 0) rfl)) (fun w9 hH10 => ?_)
  refine ops_y hH10 rfl rfl (yv_not rfl) ?_
  refine ops_y hH10 rfl rfl (yv_assign rfl) ?_
  refine ops_nil ?_
  refine thn_n ?_
  refine ret ?_
  have hH11 := (hH10.sub (List.Sublist.cons _ (List.Sublist.cons _ (List.Sublist.refl _))))
  refine fin hH11 (fun w' hf => (res1 rfl (show RV _ _ _ (.tmp 2) _ from rfl))) (fun w' hf => ?_)
  refine congrArg (fun x => Value.bool (!x)) (decide_eq_decide.2 ?_); unfold S.okJob; omega

theorem c85 {v : Value} {l : List S.Pr} {w : World} (h0 : Rd encP 2 v l w) (hn : l.length ≤ 1000000)  :
    Fn Try.prog 85 [v, (.func (.func 63) #[] #[])].toArray w (fun u _ => u = .int .i64 (idx (fun x : S.Pr => !decide (S.okJob x)) l)) := by
  refine fn_of' (args := [v, (.func (.func 63) #[] #[])]) Try.func85 rfl (ent Try.func85 (by kernel_rfl) rfl) rfl rfl (fun hH => ?_)
  refine seq ?_
  refine region ?_
  refine ops_y hH rfl rfl (yv_assign rfl) ?_
  refine ops_nil ?_
  refine thn_n ?_
  refine seq ?_
  refine seq ?_
  refine region ?_
  refine ops_y hH rfl rfl (yv_move rfl) ?_
  refine ops_y hH rfl rfl (yv_len T.sl22 rfl (h0.now hH (n := 0) rfl).is) ?_
  refine ops_y hH rfl rfl (yv_move rfl) ?_
  refine ops_nil ?_
  refine thn_n ?_
  refine block ?_
  refine loop (S := Nat) (fun k => [(8, (.int .i64 (k : Int))), (0, v), (1, (.func (.func 63) #[] #[])), (7, (.int .i64 (l.length : Int)))]) (fun k w1 => Heap [base w] w1 ∧ k ≤ l.length ∧ ∀ i, i < k → (fun x : S.Pr => !decide (S.okJob x)) (nth l (i : Int)) = false) (fun k => l.length - k) (0) (Sub.cons rfl (Sub.cons rfl (Sub.cons rfl (Sub.cons rfl (Sub.nil _))))) ?_ ?_
  · exact ⟨hH, by omega, S.all_zero⟩
  · rintro k w1 ⟨hH2, hk, hall⟩
    show Holds _ _ _ _ _ [(8, (.int .i64 (k : Int))), (0, v), (1, (.func (.func 63) #[] #[])), (7, (.int .i64 (l.length : Int)))] _ _
    refine seq ?_
    refine region ?_
    refine ops_y hH2 rfl rfl (yv_lss rfl rfl) ?_
    refine ops_nil ?_
    refine thn_n ?_
    refine seq ?_
    by_cases hc3 : (k : Int) < (l.length : Int)
    · skip
      refine cond_t rfl (decide_eq_true hc3) ?_
      refine skip ?_
      refine thn_n ?_
      refine seq ?_
      refine block ?_
      refine seq ?_
      refine region ?_
      refine ops_y hH2 rfl rfl (yv_move rfl) ?_
      refine ops_y hH2 rfl rfl (yv_assign rfl) ?_
      refine ops_nil ?_
      refine thn_n ?_
      refine seq ?_
      refine region ?_
      refine ops_y hH2 rfl rfl (yv_move rfl) ?_
      refine ops_y hH2 rfl rfl (yv_move rfl) ?_
      refine ops_y hH2 rfl rfl (yv_move rfl) ?_
      refine ops_y hH2 rfl rfl (yv_index T.sl22 rfl rfl (h0.now hH2 (n := 0) rfl).is (by omega)) ?_
      refine ops_y hH2 rfl rfl (yv_loadA (cs := [(.int .i64 ((nth l (k : Int)).1)), (.int .i64 ((nth l (k : Int)).2))]) T.agg71 rfl rfl (fun _ hw => Rd.atA (h0.now hw (n := 0) rfl) (i := (k : Int)) (by omega))) ?_
      refine op_fnV rfl rfl rfl hH2 (c63) (fun w4 hH5 => ?_)
      refine ops_nil ?_
      refine thn_n ?_
      by_cases hc6 : S.okJob ((nth l (k : Int)).1, (nth l (k : Int)).2)
      · skip
        have hp : (fun x : S.Pr => !decide (S.okJob x)) (nth l (k : Int)) = false := (not_decide_n hc6)
        refine cond_f rfl (not_decide_n hc6) ?_
        refine skip ?_
        refine blk_n ?_
        refine thn_n ?_
        refine region ?_
        refine ops_y hH5 rfl rfl (yv_add rfl rfl (by omega)) ?_
        refine ops_y hH5 rfl rfl (yv_move rfl) ?_
        refine ops_nil ?_
        refine lp_n (k + 1) (Sub.cons rfl (Sub.cons rfl (Sub.cons rfl (Sub.cons rfl (Sub.nil _))))) ?_ ?_
        · exact ⟨hH5, by omega, S.all_snoc hall hp⟩
        · first | (dsimp only; omega) | (show _ < _; omega)
      · skip
        have hp : (fun x : S.Pr => !decide (S.okJob x)) (nth l (k : Int)) = true := (not_decide_t hc6)
        refine cond_t rfl (not_decide_t hc6) ?_
        refine seq ?_
        refine region ?_
        refine ops_y hH5 rfl rfl (yv_move rfl) ?_
        refine ops_y hH5 rfl rfl (yv_assign rfl) ?_
        refine ops_nil ?_
        refine thn_n ?_
        refine ret ?_
        refine blk_r ?_
        refine thn_r ?_
        refine lp_r ?_
        refine blk_r ?_
        refine thn_r ?_
        refine fin hH5 (fun w' hf => (res1 rfl (show RV _ _ _ (.tmp 4) _ from rfl))) (fun w' hf => ?_)
        first | exact congrArg (Value.int .i64) (idx_hit (k := k) (by omega) hall hp).symm | exact congrArg (Value.int .i64) (idx_miss (fun i hi => hall i (by omega))).symm
    · skip
      refine cond_f rfl (decide_eq_false hc3) ?_
      refine exit ?_
      refine thn_x ?_
      refine lp_x ?_
      refine blk_here ?_
      refine thn_n ?_
      refine seq ?_
      refine region ?_
      refine ops_y hH2 rfl rfl (yv_assign rfl) ?_
      refine ops_nil ?_
      refine thn_n ?_
      refine ret ?_
      refine fin hH2 (fun w' hf => (res1 rfl (show RV _ _ _ (.tmp 4) _ from rfl))) (fun w' hf => ?_)
      first | exact congrArg (Value.int .i64) (idx_hit (k := k) (by omega) hall hp).symm | exact congrArg (Value.int .i64) (idx_miss (fun i hi => hall i (by omega))).symm

theorem c64 {v : Value} {l : List S.Pr} {w : World} (h0 : Rd encP 2 v l w) (hn : l.length ≤ 1000000)  :
    Fn Try.prog 64 [v, (.func (.func 63) #[] #[])].toArray w (fun u _ => u = .bool (has (fun x : S.Pr => !decide (S.okJob x)) l)) := by
  refine fn_of' (args := [v, (.func (.func 63) #[] #[])]) Try.func64 rfl (ent Try.func64 (by kernel_rfl) rfl) rfl rfl (fun hH => ?_)
  refine seq ?_
  refine region ?_
  refine ops_y hH rfl rfl (yv_assign rfl) ?_
  refine ops_nil ?_
  refine thn_n ?_
  refine seq ?_
  refine region ?_
  refine ops_y hH rfl rfl (yv_move rfl) ?_
  refine ops_y hH rfl rfl (yv_move rfl) ?_
  refine op_fnV rfl rfl rfl hH (c85 (h0.now hH (n := 0) rfl) hn) (fun w1 hH2 => ?_)
  refine ops_y hH2 rfl rfl (yv_geq rfl rfl) ?_
  refine ops_y hH2 rfl rfl (yv_assign rfl) ?_
  refine ops_nil ?_
  refine thn_n ?_
  refine ret ?_
  refine fin hH2 (fun w' hf => (res1 rfl (show RV _ _ _ (.tmp 4) _ from rfl))) (fun w' hf => ?_)
  rfl

theorem c55 {a b : Int} {w : World}  :
    Fn Try.prog 55 [(.agg #[(.int .i64 a), (.int .i64 b)])].toArray w (fun u _ => u = .bool (!decide (S.okTime (a, b)))) := by
  refine fn_of' (args := [(.agg #[(.int .i64 a), (.int .i64 b)])]) Try.func55 rfl (ent Try.func55 (by kernel_rfl) rfl) rfl rfl (fun hH => ?_)
  refine seq ?_
  refine region ?_
  refine op_box (us := [(.int .i64 a), (.int .i64 b)]) rfl rfl rfl hH (fun b1 w2 hH3 => ?_)
  refine ops_y hH3 rfl rfl (yv_assign rfl) ?_
  refine ops_nil ?_
  refine thn_n ?_
  refine seq ?_
  refine region ?_
  refine ops_y hH3 rfl rfl (yv_field T.f73_0 rfl) ?_
  refine ops_y hH3 rfl rfl (yv_load T.one2 rfl (fun _ hw => Heap.cellw hw (n := 0) rfl rfl)) ?_
  refine ops_y hH3 rfl rfl (yv_field T.f73_1 rfl) ?_
  refine ops_y hH3 rfl rfl (yv_load T.one2 rfl (fun _ hw => Heap.cellw hw (n := 0) rfl rfl)) ?_
  refine op_lit (us := [(0, (.int .i64 a)), (1, (.int .i64 b))]) T.el116_encI [a, b] rfl (by decide) rfl (fun a ha => by simp [ha.ev (show ev _ (.tmp 4) = some _ from rfl), ha.ev (show ev _ (.tmp 6) = some _ from rfl)]) (fun w => by kernel_rfl) hH3 (fun u4 lo6 hi7 w5 hH8 => ?_)
  refine op_fnV rfl rfl rfl hH8 (c56_2 (Heap.rdw T.el116_encI hH8 (n := 0) rfl)) (fun w9 hH10 => ?_)
  refine ops_y hH10 rfl rfl (yv_not rfl) ?_
  refine ops_y hH10 rfl rfl (yv_assign rfl) ?_
  refine ops_nil ?_
  refine thn_n ?_
  refine ret ?_
  have hH11 := (hH10.sub (List.Sublist.cons _ (List.Sublist.cons _ (List.Sublist.refl _))))
  refine fin hH11 (fun w' hf => (res1 rfl (show RV _ _ _ (.tmp 2) _ from rfl))) (fun w' hf => ?_)
  refine congrArg (fun x => Value.bool (!x)) (decide_eq_decide.2 ?_); unfold S.okTime; omega

theorem c84 {v : Value} {l : List S.Pr} {w : World} (h0 : Rd encP 2 v l w) (hn : l.length ≤ 1000000)  :
    Fn Try.prog 84 [v, (.func (.func 55) #[] #[])].toArray w (fun u _ => u = .int .i64 (idx (fun x : S.Pr => !decide (S.okTime x)) l)) := by
  refine fn_of' (args := [v, (.func (.func 55) #[] #[])]) Try.func84 rfl (ent Try.func84 (by kernel_rfl) rfl) rfl rfl (fun hH => ?_)
  refine seq ?_
  refine region ?_
  refine ops_y hH rfl rfl (yv_assign rfl) ?_
  refine ops_nil ?_
  refine thn_n ?_
  refine seq ?_
  refine seq ?_
  refine region ?_
  refine ops_y hH rfl rfl (yv_move rfl) ?_
  refine ops_y hH rfl rfl (yv_len T.sl23 rfl (h0.now hH (n := 0) rfl).is) ?_
  refine ops_y hH rfl rfl (yv_move rfl) ?_
  refine ops_nil ?_
  refine thn_n ?_
  refine block ?_
  refine loop (S := Nat) (fun k => [(8, (.int .i64 (k : Int))), (0, v), (1, (.func (.func 55) #[] #[])), (7, (.int .i64 (l.length : Int)))]) (fun k w1 => Heap [base w] w1 ∧ k ≤ l.length ∧ ∀ i, i < k → (fun x : S.Pr => !decide (S.okTime x)) (nth l (i : Int)) = false) (fun k => l.length - k) (0) (Sub.cons rfl (Sub.cons rfl (Sub.cons rfl (Sub.cons rfl (Sub.nil _))))) ?_ ?_
  · exact ⟨hH, by omega, S.all_zero⟩
  · rintro k w1 ⟨hH2, hk, hall⟩
    show Holds _ _ _ _ _ [(8, (.int .i64 (k : Int))), (0, v), (1, (.func (.func 55) #[] #[])), (7, (.int .i64 (l.length : Int)))] _ _
    refine seq ?_
    refine region ?_
    refine ops_y hH2 rfl rfl (yv_lss rfl rfl) ?_
    refine ops_nil ?_
    refine thn_n ?_
    refine seq ?_
    by_cases hc3 : (k : Int) < (l.length : Int)
    · skip
      refine cond_t rfl (decide_eq_true hc3) ?_
      refine skip ?_
      refine thn_n ?_
      refine seq ?_
      refine block ?_
      refine seq ?_
      refine region ?_
      refine ops_y hH2 rfl rfl (yv_move rfl) ?_
      refine ops_y hH2 rfl rfl (yv_assign rfl) ?_
      refine ops_nil ?_
      refine thn_n ?_
      refine seq ?_
      refine region ?_
      refine ops_y hH2 rfl rfl (yv_move rfl) ?_
      refine ops_y hH2 rfl rfl (yv_move rfl) ?_
      refine ops_y hH2 rfl rfl (yv_move rfl) ?_
      refine ops_y hH2 rfl rfl (yv_index T.sl23 rfl rfl (h0.now hH2 (n := 0) rfl).is (by omega)) ?_
      refine ops_y hH2 rfl rfl (yv_loadA (cs := [(.int .i64 ((nth l (k : Int)).1)), (.int .i64 ((nth l (k : Int)).2))]) T.agg73 rfl rfl (fun _ hw => Rd.atA (h0.now hw (n := 0) rfl) (i := (k : Int)) (by omega))) ?_
      refine op_fnV rfl rfl rfl hH2 (c55) (fun w4 hH5 => ?_)
      refine ops_nil ?_
      refine thn_n ?_
      by_cases hc6 : S.okTime ((nth l (k : Int)).1, (nth l (k : Int)).2)
      · skip
        have hp : (fun x : S.Pr => !decide (S.okTime x)) (nth l (k : Int)) = false := (not_decide_n hc6)
        refine cond_f rfl (not_decide_n hc6) ?_
        refine skip ?_
        refine blk_n ?_
        refine thn_n ?_
        refine region ?_
        refine ops_y hH5 rfl rfl (yv_add rfl rfl (by omega)) ?_
        refine ops_y hH5 rfl rfl (yv_move rfl) ?_
        refine ops_nil ?_
        refine lp_n (k + 1) (Sub.cons rfl (Sub.cons rfl (Sub.cons rfl (Sub.cons rfl (Sub.nil _))))) ?_ ?_
        · exact ⟨hH5, by omega, S.all_snoc hall hp⟩
        · first | (dsimp only; omega) | (show _ < _; omega)
      · skip
        have hp : (fun x : S.Pr => !decide (S.okTime x)) (nth l (k : Int)) = true := (not_decide_t hc6)
        refine cond_t rfl (not_decide_t hc6) ?_
        refine seq ?_
        refine region ?_
        refine ops_y hH5 rfl rfl (yv_move rfl) ?_
        refine ops_y hH5 rfl rfl (yv_assign rfl) ?_
        refine ops_nil ?_
        refine thn_n ?_
        refine ret ?_
        refine blk_r ?_
        refine thn_r ?_
        refine lp_r ?_
        refine blk_r ?_
        refine thn_r ?_
        refine fin hH5 (fun w' hf => (res1 rfl (show RV _ _ _ (.tmp 4) _ from rfl))) (fun w' hf => ?_)
        first | exact congrArg (Value.int .i64) (idx_hit (k := k) (by omega) hall hp).symm | exact congrArg (Value.int .i64) (idx_miss (fun i hi => hall i (by omega))).symm
    · skip
      refine cond_f rfl (decide_eq_false hc3) ?_
      refine exit ?_
      refine thn_x ?_
      refine lp_x ?_
      refine blk_here ?_
      refine thn_n ?_
      refine seq ?_
      refine region ?_
      refine ops_y hH2 rfl rfl (yv_assign rfl) ?_
      refine ops_nil ?_
      refine thn_n ?_
      refine ret ?_
      refine fin hH2 (fun w' hf => (res1 rfl (show RV _ _ _ (.tmp 4) _ from rfl))) (fun w' hf => ?_)
      first | exact congrArg (Value.int .i64) (idx_hit (k := k) (by omega) hall hp).symm | exact congrArg (Value.int .i64) (idx_miss (fun i hi => hall i (by omega))).symm

theorem c57 {v : Value} {l : List S.Pr} {w : World} (h0 : Rd encP 2 v l w) (hn : l.length ≤ 1000000)  :
    Fn Try.prog 57 [v, (.func (.func 55) #[] #[])].toArray w (fun u _ => u = .bool (has (fun x : S.Pr => !decide (S.okTime x)) l)) := by
  refine fn_of' (args := [v, (.func (.func 55) #[] #[])]) Try.func57 rfl (ent Try.func57 (by kernel_rfl) rfl) rfl rfl (fun hH => ?_)
  refine seq ?_
  refine region ?_
  refine ops_y hH rfl rfl (yv_assign rfl) ?_
  refine ops_nil ?_
  refine thn_n ?_
  refine seq ?_
  refine region ?_
  refine ops_y hH rfl rfl (yv_move rfl) ?_
  refine ops_y hH rfl rfl (yv_move rfl) ?_
  refine op_fnV rfl rfl rfl hH (c84 (h0.now hH (n := 0) rfl) hn) (fun w1 hH2 => ?_)
  refine ops_y hH2 rfl rfl (yv_geq rfl rfl) ?_
  refine ops_y hH2 rfl rfl (yv_assign rfl) ?_
  refine ops_nil ?_
  refine thn_n ?_
  refine ret ?_
  refine fin hH2 (fun w' hf => (res1 rfl (show RV _ _ _ (.tmp 4) _ from rfl))) (fun w' hf => ?_)
  rfl

theorem c22 {v : Value} {l : List S.Pr} {w : World} (h0 : Rd encP 2 v l w) (hn : l.length ≤ 1000000)  :
    Fn Try.prog 22 [v].toArray w (fun u _ => u = .int .i64 (S.checkJobs l)) := by
  refine fn_of' (args := [v]) Try.func22 rfl (ent Try.func22 (by kernel_rfl) rfl) rfl rfl (fun hH => ?_)
  refine seq ?_
  refine region ?_
  refine ops_y hH rfl rfl (yv_assign rfl) ?_
  refine ops_nil ?_
  refine thn_n ?_
  refine seq ?_
  refine region ?_
  refine ops_y hH rfl rfl (yv_assign rfl) ?_
  refine ops_nil ?_
  refine thn_n ?_
  refine seq ?_
  refine block ?_
  refine seq ?_
  refine region ?_
  refine ops_y hH rfl rfl (yv_move rfl) ?_
  refine ops_y hH rfl rfl (yv_len T.sl22 rfl (h0.now hH (n := 0) rfl).is) ?_
  refine op_lit (us := [(0, (.int .i64 (l.length : Int)))]) T.el116_encI [(l.length : Int)] rfl (by decide) rfl (fun a ha => by simp [ha.ev (show ev _ (.tmp 6) = some _ from rfl)]) (fun w => by kernel_rfl) hH (fun u1 lo3 hi4 w2 hH5 => ?_)
  refine op_fnV rfl rfl rfl hH5 (c56_1 (Heap.rdw T.el116_encI hH5 (n := 0) rfl)) (fun w6 hH7 => ?_)
  refine ops_y hH7 rfl rfl (yv_not rfl) ?_
  refine ops_y hH7 rfl rfl (yv_assign rfl) ?_
  refine ops_nil ?_
  refine thn_n ?_
  by_cases hc8 : 1 ≤ (l.length : Int) ∧ (l.length : Int) ≤ 8
  · skip
    refine cond_f rfl (not_decide_n hc8) ?_
    refine seq ?_
    refine region ?_
    refine ops_y hH7 rfl rfl (yv_move rfl) ?_
    refine ops_y hH7 rfl rfl (yv_move rfl) ?_
    refine op_fnV rfl rfl rfl hH7 (c64 (h0.now hH7 (n := 1) rfl) hn) (fun w9 hH10 => ?_)
    refine ops_y hH10 rfl rfl (yv_assign rfl) ?_
    refine ops_nil ?_
    refine thn_n ?_
    by_cases hc11 : has (fun x : S.Pr => !decide (S.okJob x)) l = true
    · skip
      refine cond_t rfl hc11 ?_
      refine seq ?_
      refine region ?_
      refine ops_y hH10 rfl rfl (yv_assign rfl) ?_
      refine ops_nil ?_
      refine thn_n ?_
      refine ret ?_
      refine blk_r ?_
      refine thn_r ?_
      have hH12 := (hH10.sub (List.Sublist.cons _ (List.Sublist.refl _)))
      refine fin hH12 (fun w' hf => (res1 rfl (show RV _ _ _ (.tmp 2) _ from rfl))) (fun w' hf => ?_)
      show _ = _; unfold S.checkJobs; first | (rw [if_pos (by omega)]; done) | (rw [if_neg (by omega), if_neg (odd_job ‹_›)]; done) | (rw [if_neg (by omega), if_pos (not_odd_job ‹_›)])
    · skip
      refine cond_f rfl (Bool.eq_false_iff.2 hc11) ?_
      refine skip ?_
      refine blk_n ?_
      refine thn_n ?_
      refine seq ?_
      refine region ?_
      refine ops_y hH10 rfl rfl (yv_assign rfl) ?_
      refine ops_nil ?_
      refine thn_n ?_
      refine ret ?_
      have hH13 := (hH10.sub (List.Sublist.cons _ (List.Sublist.refl _)))
      refine fin hH13 (fun w' hf => (res1 rfl (show RV _ _ _ (.tmp 2) _ from rfl))) (fun w' hf => ?_)
      show _ = _; unfold S.checkJobs; first | (rw [if_pos (by omega)]; done) | (rw [if_neg (by omega), if_neg (odd_job ‹_›)]; done) | (rw [if_neg (by omega), if_pos (not_odd_job ‹_›)])
  · skip
    refine cond_t rfl (not_decide_t hc8) ?_
    refine seq ?_
    refine region ?_
    refine ops_y hH7 rfl rfl (yv_assign rfl) ?_
    refine ops_nil ?_
    refine thn_n ?_
    refine ret ?_
    refine blk_r ?_
    refine thn_r ?_
    have hH14 := (hH7.sub (List.Sublist.cons _ (List.Sublist.refl _)))
    refine fin hH14 (fun w' hf => (res1 rfl (show RV _ _ _ (.tmp 2) _ from rfl))) (fun w' hf => ?_)
    show _ = _; unfold S.checkJobs; first | (rw [if_pos (by omega)]; done) | (rw [if_neg (by omega), if_neg (odd_job ‹_›)]; done) | (rw [if_neg (by omega), if_pos (not_odd_job ‹_›)])

end Go.Fip
