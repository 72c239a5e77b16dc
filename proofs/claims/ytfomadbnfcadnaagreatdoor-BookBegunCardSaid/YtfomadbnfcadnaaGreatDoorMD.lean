/- Joined texts: Wa, Wb, Wc, Wd, We, Wf. -/
import Derived.Test.YtfomadbnfcadnaaGreatDoorMC
import Derived.Test.YtfomadbnfcadnaaGreatDoorMB
set_option linter.unusedVariables false
set_option linter.unusedSimpArgs false
set_option linter.unusedSectionVars false
set_option linter.unnecessarySimpa false
namespace Go.Fip
open Go.Proofs Go.RowKit
theorem wrap_u8 {m : Int} (h : 0 ≤ m ∧ m ≤ 255) : IntKind.u8.wrap m = m := IntWalk.u8_in m h
theorem T.el56_encT : El Tryz.prog 56 9 1 encT := el_of (z := (.string ⟨#[]⟩)) (bytes := 16) (by kernel_rfl) (by kernel_rfl) rfl rfl rfl (fun _ => rfl) (by intro x; simp [encT, str, Value.oneCell'])
theorem c69 {l : List UInt8} {w : World} (hn : l.length ≤ 1000000)  :
  Fn Tryz.prog 69 [(str l)].toArray w (fun u _ => u = .int .u64 ((B.sm l).toNat : Int)) := by
 refine fn_of' (args := [(str l)]) Tryz.func69 rfl (ent Tryz.func69 (by kernel_rfl) rfl) rfl rfl (fun hH => ?_)
 refine seq (region (oA hH rfl rfl (ops_nil (thn_n (seq (region (oA hH rfl rfl (ops_nil (thn_n ?_)))))))))
 refine seq (seq (region (oA hH rfl rfl (ops_nil (thn_n (block ?_))))))
 refine loop (S := Nat) (fun k => [(4, (.int .i64 (k : Int))), (3, (.int .u64 ((B.smTo l k).toNat : Int))), (0, (str l)), (2, (.int .u64 0))]) (fun k w1 => Heap [base w] w1 ∧ k ≤ l.length) (fun k => l.length - k) (0) (uC rfl (uC rfl (uC rfl (uC rfl (Sub.nil _))))) ?_ ?_
 ·exact ⟨hH, by omega⟩
 ·rintro k w1 ⟨hH2, hk⟩
  show Holds _ _ _ _ _ [(4, (.int .i64 (k : Int))), (3, (.int .u64 ((B.smTo l k).toNat : Int))), (0, (str l)), (2, (.int .u64 0))] _ _
  refine seq (seq (region (oM hH2 rfl rfl (oM hH2 rfl rfl ?_))))
  refine ops_y hH2 rfl rfl (yv_lenS Tryz.underlying9 rfl) ?_
  refine ops_y hH2 rfl rfl (yv_lss rfl rfl) ?_
  refine ops_nil (thn_n ?_)
  by_cases hc3 : (k : Int) < (l.length : Int)
  ·skip
   refine cond_t rfl (dT hc3) ?_
   refine skip (thn_n (seq (block (seq (region (oM hH2 rfl rfl (oM hH2 rfl rfl (oM hH2 rfl rfl ?_))))))))
   refine ops_y hH2 rfl rfl (yv_idxS Tryz.underlying9 rfl rfl (by omega)) ?_
   refine ops_y hH2 rfl rfl (yv_cast B.byte_word (yv_conv Tryz.underlying5 Tryz.underlying32 rfl (wrap_u64 (by have := @byteAt_bd l (k : Int); omega)))) ?_
   refine ops_y hH2 rfl rfl (yv_xorW (a := B.smTo l k) (b := (l.getD k 0).toUInt64) rfl rfl) ?_
   refine oA hH2 rfl rfl (ops_nil (thn_n (region (oM hH2 rfl rfl ?_))))
   refine ops_y hH2 rfl rfl (yv_mulW (a := (B.smTo l k) ^^^ ((l.getD k 0).toUInt64)) (b := (1099511628211 : UInt64)) rfl rfl) ?_
   refine oA hH2 rfl rfl (ops_nil (blk_n (thn_n (region (oM hH2 rfl rfl ?_)))))
   refine ops_y hH2 rfl rfl (yv_add rfl rfl (by omega)) ?_
   refine oA hH2 rfl rfl (ops_nil ?_)
   refine lp_n (k + 1) (uC rfl (Sub.cons (congrArg (fun z : Int => some (Value.int .u64 z)) (by rw [B.smTo_succ (by omega)])) (uC rfl (uC rfl (Sub.nil _))))) ?_ ?_
   ·exact ⟨hH2, by omega⟩
   ·first | (dsimp only; omega) | (show _ < _; omega)
  ·skip
   refine cond_f rfl (dF hc3) ?_
   refine exit (thn_x (lp_x (blk_here (thn_n (seq (region (oM hH2 rfl rfl (oA hH2 rfl rfl (ops_nil ?_)))))))))
   refine thn_n (ret ?_)
   refine fin hH2 (fun w' hf => (res1 rfl (show RV _ _ _ (.tmp 2) _ from rfl))) (fun w' hf => ?_)
   rw [B.smTo_all (by omega)]
theorem B.half_step {n k : Nat} (hn : n ≤ 64) (h : ∃ j, k = 2 ^ j) (h1 : k = 1 ∨ k < n) (h2 : 2 * k < n) : (∃ j, 2 * k = 2 ^ j) ∧ (2 * k = 1 ∨ 2 * k < n) := by
 obtain ⟨j, hj⟩ := h
 exact ⟨⟨j + 1, by rw [Nat.pow_succ]; omega⟩, .inr h2⟩
theorem B.half_done {n k : Nat} (hn : n ≤ 64) (h : ∃ j, k = 2 ^ j) (h1 : k = 1 ∨ k < n) (h2 : ¬ 2 * k < n) : k = B.half n := by
 obtain ⟨j, hj⟩ := h
 have hjl : j < 7 := by
  rcases Nat.lt_or_ge j 7 with h | h
  ·exact h
  ·have := Nat.pow_le_pow_right (n := 2) (by decide) h
   have : (2 : Nat) ^ 7 = 128 := by decide
   omega
 unfold B.half
 match j, hjl with
 | 0, _ => have : k = 1 := hj; subst this; rw [if_pos (by omega)]
 | 1, _ => have : k = 2 := hj; subst this; rw [if_neg (by omega), if_pos (by omega)]
 | 2, _ => have : k = 4 := hj; subst this; rw [if_neg (by omega), if_neg (by omega), if_pos (by omega)]
 | 3, _ => have : k = 8 := hj; subst this; rw [if_neg (by omega), if_neg (by omega), if_neg (by omega), if_pos (by omega)]
 | 4, _ => have : k = 16 := hj; subst this; rw [if_neg (by omega), if_neg (by omega), if_neg (by omega), if_neg (by omega), if_pos (by omega)]
 | 5, _ => have : k = 32 := hj; subst this; rw [if_neg (by omega), if_neg (by omega), if_neg (by omega), if_neg (by omega), if_neg (by omega)]
 | 6, _ => omega
theorem c96 {n : Nat} {w : World} (hn : n ≤ 64)  :
  Fn Tryz.prog 96 [(.int .i64 (n : Int))].toArray w (fun u _ => u = .int .i64 (B.half n : Int)) := by
 refine fn_of' (args := [(.int .i64 (n : Int))]) Tryz.func96 rfl (ent Tryz.func96 (by kernel_rfl) rfl) rfl rfl (fun hH => ?_)
 refine seq (region (oA hH rfl rfl (ops_nil (thn_n (seq (region (oA hH rfl rfl (ops_nil (thn_n ?_)))))))))
 refine seq (block ?_)
 refine loop (S := Nat) (fun k => [(3, (.int .i64 (k : Int))), (0, (.int .i64 (n : Int))), (2, (.int .i64 0))]) (fun k w1 => Heap [base w] w1 ∧ 1 ≤ k ∧ (∃ j, k = 2 ^ j) ∧ (k = 1 ∨ k < n)) (fun k => n - k) (1) (uC rfl (uC rfl (uC rfl (Sub.nil _)))) ?_ ?_
 ·exact ⟨hH, by omega, ⟨0, rfl⟩, .inl rfl⟩
 ·rintro k w1 ⟨hH2, hk0, hk, hk1⟩
  show Holds _ _ _ _ _ [(3, (.int .i64 (k : Int))), (0, (.int .i64 (n : Int))), (2, (.int .i64 0))] _ _
  have hkb : k ≤ 64 := by omega
  refine seq (seq (region (oM hH2 rfl rfl ?_)))
  refine ops_y hH2 rfl rfl (yv_mul rfl rfl (by omega)) ?_
  refine oM hH2 rfl rfl ?_
  refine ops_y hH2 rfl rfl (yv_lss rfl rfl) ?_
  refine ops_nil (thn_n ?_)
  by_cases hc3 : (2 * (k : Int)) < (n : Int)
  ·skip
   refine cond_t rfl (dT hc3) ?_
   refine skip (thn_n (block (region (oM hH2 rfl rfl ?_))))
   refine ops_y hH2 rfl rfl (yv_mul rfl rfl (by omega)) ?_
   refine oA hH2 rfl rfl (ops_nil (blk_n ?_))
   refine lp_n (2 * k) (Sub.cons (congrArg (fun z : Int => some (Value.int .i64 z)) (by omega)) (uC rfl (uC rfl (Sub.nil _)))) ?_ ?_
   ·exact ⟨hH2, by omega, B.half_step hn hk hk1 (by omega)⟩
   ·first | (dsimp only; omega) | (show _ < _; omega)
  ·skip
   refine cond_f rfl (dF hc3) ?_
   refine exit (thn_x (lp_x (blk_here (thn_n (seq (region (oM hH2 rfl rfl (oA hH2 rfl rfl (ops_nil ?_)))))))))
   refine thn_n (ret ?_)
   refine fin hH2 (fun w' hf => (res1 rfl (show RV _ _ _ (.tmp 2) _ from rfl))) (fun w' hf => ?_)
   rw [B.half_done hn hk hk1 (by omega)]
theorem c107 {n : Nat} {w : World} (hn : n ≤ 64)  :
  Fn Tryz.prog 107 [(.int .i64 (n : Int))].toArray w (fun u _ => u = .int .i64 (B.half n : Int)) := by
 refine fn_of' (args := [(.int .i64 (n : Int))]) Tryz.func107 rfl (ent Tryz.func107 (by kernel_rfl) rfl) rfl rfl (fun hH => ?_)
 refine seq (region (oA hH rfl rfl (ops_nil (thn_n (seq (region (oA hH rfl rfl (ops_nil (thn_n ?_)))))))))
 refine seq (block ?_)
 refine loop (S := Nat) (fun k => [(3, (.int .i64 (k : Int))), (0, (.int .i64 (n : Int))), (2, (.int .i64 0))]) (fun k w1 => Heap [base w] w1 ∧ 1 ≤ k ∧ (∃ j, k = 2 ^ j) ∧ (k = 1 ∨ k < n)) (fun k => n - k) (1) (uC rfl (uC rfl (uC rfl (Sub.nil _)))) ?_ ?_
 ·exact ⟨hH, by omega, ⟨0, rfl⟩, .inl rfl⟩
 ·rintro k w1 ⟨hH2, hk0, hk, hk1⟩
  show Holds _ _ _ _ _ [(3, (.int .i64 (k : Int))), (0, (.int .i64 (n : Int))), (2, (.int .i64 0))] _ _
  have hkb : k ≤ 64 := by omega
  refine seq (seq (region (oM hH2 rfl rfl ?_)))
  refine ops_y hH2 rfl rfl (yv_mul rfl rfl (by omega)) ?_
  refine oM hH2 rfl rfl ?_
  refine ops_y hH2 rfl rfl (yv_lss rfl rfl) ?_
  refine ops_nil (thn_n ?_)
  by_cases hc3 : ((k : Int) * 2) < (n : Int)
  ·skip
   refine cond_t rfl (dT hc3) ?_
   refine skip (thn_n (block (region (oM hH2 rfl rfl ?_))))
   refine ops_y hH2 rfl rfl (yv_mul rfl rfl (by omega)) ?_
   refine oA hH2 rfl rfl (ops_nil (blk_n ?_))
   refine lp_n (2 * k) (Sub.cons (congrArg (fun z : Int => some (Value.int .i64 z)) (by omega)) (uC rfl (uC rfl (Sub.nil _)))) ?_ ?_
   ·exact ⟨hH2, by omega, B.half_step hn hk hk1 (by omega)⟩
   ·first | (dsimp only; omega) | (show _ < _; omega)
  ·skip
   refine cond_f rfl (dF hc3) ?_
   refine exit (thn_x (lp_x (blk_here (thn_n (seq (region (oM hH2 rfl rfl (oA hH2 rfl rfl (ops_nil ?_)))))))))
   refine thn_n (ret ?_)
   refine fin hH2 (fun w' hf => (res1 rfl (show RV _ _ _ (.tmp 2) _ from rfl))) (fun w' hf => ?_)
   rw [B.half_done hn hk hk1 (by omega)]
theorem B.hx_at : ∀ d, d < 16 → ((([48, 49, 50, 51, 52, 53, 54, 55, 56, 57, 97, 98, 99, 100, 101, 102] : List UInt8).take (d + 1)).drop d) = [B.hd d] := by decide
theorem B.hd_mod {m : Nat} : B.hd (m % 16) = B.hd m := by unfold B.hd; rw [Nat.mod_mod]
theorem c55 {x : UInt64} {w : World}  :
  Fn Tryz.prog 55 [(.int .u64 (x.toNat : Int))].toArray w (fun u _ => u = str (B.hex x)) := by
 refine fn_of' (args := [(.int .u64 (x.toNat : Int))]) Tryz.func55 rfl (ent Tryz.func55 (by kernel_rfl) rfl) rfl rfl (fun hH => ?_)
 have hx := x.toNat_lt
 refine seq (region (oA hH rfl rfl (ops_nil (thn_n (seq (region (oA hH rfl rfl (ops_nil (thn_n ?_)))))))))
 refine seq (seq (region (oA hH rfl rfl (ops_nil (thn_n (block ?_))))))
 refine loop (S := Nat × Nat × List UInt8) (fun (i, m, o) => [(4, (.int .i64 (i : Int))), (0, (.int .u64 (m : Int))), (3, (str o)), (2, (str ([] : List UInt8)))]) (fun (i, m, o) w1 => Heap [base w] w1 ∧ i ≤ 16 ∧ m < 18446744073709551616 ∧ o.length = i ∧ B.hexN (16 - i) m ++ o = B.hex x) (fun (i, m, o) => 16 - i) (0, x.toNat, []) (uC rfl (uC rfl (uC rfl (uC rfl (Sub.nil _))))) ?_ ?_
 ·exact ⟨hH, by omega, hx, rfl, List.append_nil _⟩
 ·rintro ⟨i, m, o⟩ w1 ⟨hH2, hi, hm, hol, ho⟩
  show Holds _ _ _ _ _ [(4, (.int .i64 (i : Int))), (0, (.int .u64 (m : Int))), (3, (str o)), (2, (str ([] : List UInt8)))] _ _
  refine seq (seq (region (oM hH2 rfl rfl ?_)))
  refine ops_y hH2 rfl rfl (yv_lss rfl rfl) ?_
  refine ops_nil (thn_n ?_)
  by_cases hc3 : (i : Int) < 16
  ·skip
   refine cond_t rfl (dT hc3) ?_
   refine skip (thn_n (seq (block (seq (region (oM hH2 rfl rfl ?_))))))
   refine ops_y hH2 rfl rfl (yv_cast (show _ = ((m % 16 : Nat) : Int) by omega) (yv_rem rfl rfl (by omega) (by omega))) ?_
   refine ops_y hH2 rfl rfl (yv_conv Tryz.underlying32 Tryz.underlying3 rfl (wrap_i64 (by omega))) ?_
   refine oA hH2 rfl rfl (ops_nil (thn_n (seq (region (oM hH2 rfl rfl (oM hH2 rfl rfl ?_))))))
   refine ops_y hH2 rfl rfl (yv_add rfl rfl (by omega)) ?_
   refine ops_y hH2 rfl rfl (yv_castS (by rw [show (((m % 16 : Nat) : Int) + 1).toNat = m % 16 + 1 by omega, show (((m % 16 : Nat) : Int)).toNat = m % 16 by omega, B.hx_at _ (by omega), B.hd_mod]) (yv_subS Tryz.underlying9 rfl rfl rfl (by simp only [List.length_cons, List.length_nil]; omega))) ?_
   refine oM hH2 rfl rfl ?_
   refine ops_y hH2 rfl rfl (yv_cat rfl rfl (by first | omega | (simp only [List.length_append, List.length_cons, List.length_nil]; omega))) ?_
   refine oA hH2 rfl rfl (ops_nil (thn_n (region (oM hH2 rfl rfl ?_))))
   refine ops_y hH2 rfl rfl (yv_quoK rfl rfl (by omega) (by omega) (wrap_u64 (by omega))) ?_
   refine oA hH2 rfl rfl (ops_nil (blk_n (thn_n (region (oM hH2 rfl rfl ?_)))))
   refine ops_y hH2 rfl rfl (yv_add rfl rfl (by omega)) ?_
   refine oA hH2 rfl rfl (ops_nil ?_)
   refine lp_n (i + 1, m / 16, (B.hd m :: o)) (uC rfl (Sub.cons (congrArg (fun z : Int => some (Value.int .u64 z)) (by omega)) (uC rfl (uC rfl (Sub.nil _))))) ?_ ?_
   ·exact ⟨hH2, by omega, by omega, (by rw [List.length_cons]; omega), (by rw [← ho, show 16 - i = (16 - (i + 1)) + 1 by omega]; show _ = B.hexN (16 - (i + 1)) (m / 16) ++ [B.hd m] ++ o; rw [List.append_assoc]; rfl)⟩
   ·first | (dsimp only; omega) | (show _ < _; omega)
  ·skip
   refine cond_f rfl (dF hc3) ?_
   refine exit (thn_x (lp_x (blk_here (thn_n (seq (region (oM hH2 rfl rfl (oA hH2 rfl rfl (ops_nil ?_)))))))))
   refine thn_n (ret ?_)
   refine fin hH2 (fun w' hf => (res1 rfl (show RV _ _ _ (.tmp 2) _ from rfl))) (fun w' hf => ?_)
   have hie : i = 16 := by omega
   subst hie
   rw [← ho]; rfl
theorem B.ofB_dg {m : Nat} : ofB [48 + (m : Int) % 10] = [B.dg m] := by
 unfold ofB B.dg
 rw [List.map_cons, List.map_nil, show (48 + (m : Int) % 10).toNat = 48 + m % 10 by omega]
theorem B.ofB_dg1 {m : Nat} (h : m < 10) : ofB [48 + (m : Int)] = [B.dg m] := by
 rw [← B.ofB_dg, show (m : Int) % 10 = m by omega]
theorem c129 {n : Nat} {w : World} (hn : n < 1000000000000000000)  :
  Fn Tryz.prog 129 [(.int .i64 (n : Int))].toArray w (fun u _ => u = str (B.dig n)) := by
 refine fn_of' (args := [(.int .i64 (n : Int))]) Tryz.func129 rfl (ent Tryz.func129 (by kernel_rfl) rfl) rfl rfl (fun hH => ?_)
 have hdl := B.dig_len hn
 refine seq (region (oA hH rfl rfl (ops_nil (thn_n (seq (region (oA hH rfl rfl (ops_nil (thn_n ?_)))))))))
 refine seq (block ?_)
 refine loop (S := Nat × List UInt8) (fun (m, o) => [(0, (.int .i64 (m : Int))), (3, (str o)), (2, (str ([] : List UInt8)))]) (fun (m, o) w1 => Heap [base w] w1 ∧ m ≤ n ∧ B.dig m ++ o = B.dig n) (fun (m, o) => m) (n, []) (uC rfl (uC rfl (uC rfl (Sub.nil _)))) ?_ ?_
 ·exact ⟨hH, by omega, List.append_nil _⟩
 ·rintro ⟨m, o⟩ w1 ⟨hH2, hm, ho⟩
  show Holds _ _ _ _ _ [(0, (.int .i64 (m : Int))), (3, (str o)), (2, (str ([] : List UInt8)))] _ _
  have hol : o.length ≤ 21 := by have := congrArg List.length ho; rw [List.length_append] at this; omega
  refine seq (seq (region (oM hH2 rfl rfl ?_)))
  refine ops_y hH2 rfl rfl (yv_gtr rfl rfl) ?_
  refine ops_nil (thn_n ?_)
  by_cases hc3 : 9 < (m : Int)
  ·skip
   refine cond_t rfl (dT hc3) ?_
   refine skip (thn_n (block (seq (region (oM hH2 rfl rfl ?_)))))
   refine ops_y hH2 rfl rfl (yv_rem rfl rfl (by omega) (by omega)) ?_
   refine ops_y hH2 rfl rfl (yv_add rfl rfl (by omega)) ?_
   refine ops_y hH2 rfl rfl (yv_conv Tryz.underlying2 Tryz.underlying5 rfl (wrap_u8 (by omega))) ?_
   refine op_lit (us := [(0, (.int .u8 (48 + ((m : Int) % 10))))]) T.el110_encB [48 + ((m : Int) % 10)] rfl (by decide) rfl (fun a ha => by simp [ha.ev (show ev _ (.tmp 9) = some _ from rfl)]) (fun w => by kernel_rfl) hH2 (fun u4 lo6 hi7 w5 hH8 => ?_)
   refine ops_y hH8 rfl rfl (yv_castS B.ofB_dg (yv_b2s Tryz.underlying110 Tryz.underlying9 Tryz.underlying5 rfl (fun _ hw => (Heap.rdw T.el110_encB hw (n := 0) rfl)) ((fun n hn => by rw [List.mem_singleton] at hn; omega)))) ?_
   refine oM hH8 rfl rfl ?_
   refine ops_y hH8 rfl rfl (yv_cat rfl rfl (by first | omega | (simp only [List.length_append, List.length_cons, List.length_nil]; omega))) ?_
   refine oA hH8 rfl rfl (ops_nil (thn_n (region (oM hH8 rfl rfl ?_))))
   refine ops_y hH8 rfl rfl (yv_quo rfl rfl (by omega) (by omega) (by omega)) ?_
   refine oA hH8 rfl rfl (ops_nil (blk_n ?_))
   have hH9 := (hH8.sub (sC sR))
   refine lp_n (m / 10, (B.dg m :: o)) (Sub.cons (congrArg (fun z : Int => some (Value.int .i64 z)) (by omega)) (uC rfl (uC rfl (Sub.nil _)))) ?_ ?_
   ·exact ⟨hH9, by omega, (by rw [← ho, B.dig_rec2 (n := m) (by omega) (by omega), List.append_assoc]; rfl)⟩
   ·first | (dsimp only; omega) | (show _ < _; omega)
  ·skip
   refine cond_f rfl (dF hc3) ?_
   refine exit (thn_x (lp_x (blk_here (thn_n (seq (region (oM hH2 rfl rfl ?_)))))))
   refine ops_y hH2 rfl rfl (yv_add rfl rfl (by omega)) ?_
   refine ops_y hH2 rfl rfl (yv_conv Tryz.underlying2 Tryz.underlying5 rfl (wrap_u8 (by omega))) ?_
   refine op_lit (us := [(0, (.int .u8 (48 + (m : Int))))]) T.el110_encB [48 + (m : Int)] rfl (by decide) rfl (fun a ha => by simp [ha.ev (show ev _ (.tmp 18) = some _ from rfl)]) (fun w => by kernel_rfl) hH2 (fun u10 lo12 hi13 w11 hH14 => ?_)
   refine ops_y hH14 rfl rfl (yv_castS (B.ofB_dg1 (by omega)) (yv_b2s Tryz.underlying110 Tryz.underlying9 Tryz.underlying5 rfl (fun _ hw => (Heap.rdw T.el110_encB hw (n := 0) rfl)) ((fun n hn => by rw [List.mem_singleton] at hn; omega)))) ?_
   refine oM hH14 rfl rfl ?_
   refine ops_y hH14 rfl rfl (yv_cat rfl rfl (by first | omega | (simp only [List.length_append, List.length_cons, List.length_nil]; omega))) ?_
   refine oA hH14 rfl rfl (ops_nil (thn_n (ret ?_)))
   have hH15 := (hH14.sub (sC sR))
   refine fin hH15 (fun w' hf => (res1 rfl (show RV _ _ _ (.tmp 2) _ from rfl))) (fun w' hf => ?_)
   rw [← ho, B.dig_small (by omega)]
end Go.Fip
namespace Go.Fip
open Go.Proofs Go.RowKit
theorem c17 {v : Value} {l : List En} {w : World} (h0 : Rd encE 5 v l w)  :
  Fn Tryz.prog 17 [(.agg #[v])].toArray w (fun u _ => u = .bool (decide (30 < (l.length : Int)))) := by
 refine fn_of' (args := [(.agg #[v])]) Tryz.func17 rfl (ent Tryz.func17 (by kernel_rfl) rfl) rfl rfl (fun hH => ?_)
 refine seq (region ?_)
 refine op_box (us := [v]) rfl rfl rfl hH (fun b1 w2 hH3 => ?_)
 refine oA hH3 rfl rfl (ops_nil (thn_n (seq (region ?_))))
 refine ops_y hH3 rfl rfl (yv_field T.f24_0 rfl) ?_
 refine ops_y hH3 rfl rfl (yv_load T.one22 rfl (fun _ hw => Heap.cellw hw (n := 0) rfl rfl)) ?_
 refine ops_y hH3 rfl rfl (yv_len T.sl22 rfl (h0.now hH3 (n := 1) rfl).is) ?_
 refine ops_y hH3 rfl rfl (yv_gtr rfl rfl) ?_
 refine oA hH3 rfl rfl (ops_nil (thn_n (ret ?_)))
 have hH4 := (hH3.sub (sC sR))
 refine fin hH4 (fun w' hf => (res1 rfl (show RV _ _ _ (.tmp 2) _ from rfl))) (fun w' hf => ?_)
 rfl
theorem c66 {e : En} {w : World}  :
  Fn Tryz.prog 66 [(.agg #[(.int .i64 e.n), (.int .i64 e.d), (.int .i64 e.f), (.int .i64 e.t), (.int .i64 e.a)])].toArray w (fun u _ => u = .bool (decide (B.isEn e))) := by
 refine fn_of' (args := [(.agg #[(.int .i64 e.n), (.int .i64 e.d), (.int .i64 e.f), (.int .i64 e.t), (.int .i64 e.a)])]) Tryz.func66 rfl (ent Tryz.func66 (by kernel_rfl) rfl) rfl rfl (fun hH => ?_)
 refine seq (region ?_)
 refine op_box (us := [(.int .i64 e.n), (.int .i64 e.d), (.int .i64 e.f), (.int .i64 e.t), (.int .i64 e.a)]) rfl rfl rfl hH (fun b1 w2 hH3 => ?_)
 refine oA hH3 rfl rfl (ops_nil (thn_n (seq (seq (region ?_)))))
 refine ops_y hH3 rfl rfl (yv_field T.f38_0 rfl) ?_
 refine ops_y hH3 rfl rfl (yv_load T.one2 rfl (fun _ hw => Heap.cellw hw (n := 0) rfl rfl)) ?_
 refine ops_y hH3 rfl rfl (yv_lss rfl rfl) ?_
 refine oM hH3 rfl rfl ?_
 by_cases hc4 : e.n < 1
 ·skip
  refine guard_no rfl rfl (dT hc4) rfl ?_
  refine guard_no rfl rfl (dT hc4) rfl ?_
  refine guard_no rfl rfl (dT hc4) rfl ?_
  refine ops_y hH3 rfl rfl (yv_pick_t rfl (dT hc4) rfl) ?_
  refine oM hH3 rfl rfl (guard_no rfl rfl rfl rfl (guard_no rfl rfl rfl rfl (guard_no rfl rfl rfl rfl ?_)))
  refine ops_y hH3 rfl rfl (yv_pick_t rfl rfl rfl) ?_
  refine oM hH3 rfl rfl (guard_no rfl rfl rfl rfl (guard_no rfl rfl rfl rfl (guard_no rfl rfl rfl rfl ?_)))
  refine ops_y hH3 rfl rfl (yv_pick_t rfl rfl rfl) ?_
  refine ops_nil (thn_n ?_)
  refine cond_t rfl rfl ?_
  refine seq (region (oA hH3 rfl rfl (ops_nil (thn_n (ret (thn_r ?_))))))
  have hH5 := (hH3.sub (sC sR))
  refine fin hH5 (fun w' hf => (res1 rfl (show RV _ _ _ (.tmp 2) _ from rfl))) (fun w' hf => ?_)
  first | exact congrArg Value.bool (dT (show B.isEn e by unfold B.isEn; omega)).symm | exact congrArg Value.bool (dF (show ¬ B.isEn e by unfold B.isEn; omega)).symm | exact congrArg Value.bool (decide_eq_decide.2 (by unfold B.isEn; omega))
 ·skip
  refine guard_yes rfl rfl (dF hc4) ?_
  refine ops_y hH3 rfl rfl (yv_field T.f38_0 rfl) ?_
  refine guard_yes rfl rfl (dF hc4) ?_
  refine ops_y hH3 rfl rfl (yv_load T.one2 rfl (fun _ hw => Heap.cellw hw (n := 0) rfl rfl)) ?_
  refine guard_yes rfl rfl (dF hc4) ?_
  refine ops_y hH3 rfl rfl (yv_gtr rfl rfl) ?_
  refine ops_y hH3 rfl rfl (yv_pick_f rfl (dF hc4) rfl) ?_
  refine oM hH3 rfl rfl ?_
  by_cases hc6 : 1099511627776 < e.n
  ·skip
   refine guard_no rfl rfl (dT hc6) rfl ?_
   refine guard_no rfl rfl (dT hc6) rfl ?_
   refine guard_no rfl rfl (dT hc6) rfl ?_
   refine ops_y hH3 rfl rfl (yv_pick_t rfl (dT hc6) rfl) ?_
   refine oM hH3 rfl rfl (guard_no rfl rfl rfl rfl (guard_no rfl rfl rfl rfl (guard_no rfl rfl rfl rfl ?_)))
   refine ops_y hH3 rfl rfl (yv_pick_t rfl rfl rfl) ?_
   refine ops_nil (thn_n ?_)
   refine cond_t rfl rfl ?_
   refine seq (region (oA hH3 rfl rfl (ops_nil (thn_n (ret (thn_r ?_))))))
   have hH7 := (hH3.sub (sC sR))
   refine fin hH7 (fun w' hf => (res1 rfl (show RV _ _ _ (.tmp 2) _ from rfl))) (fun w' hf => ?_)
   first | exact congrArg Value.bool (dT (show B.isEn e by unfold B.isEn; omega)).symm | exact congrArg Value.bool (dF (show ¬ B.isEn e by unfold B.isEn; omega)).symm | exact congrArg Value.bool (decide_eq_decide.2 (by unfold B.isEn; omega))
  ·skip
   refine guard_yes rfl rfl (dF hc6) ?_
   refine ops_y hH3 rfl rfl (yv_field T.f38_1 rfl) ?_
   refine guard_yes rfl rfl (dF hc6) ?_
   refine ops_y hH3 rfl rfl (yv_load T.one2 rfl (fun _ hw => Heap.cellw hw (n := 0) rfl rfl)) ?_
   refine guard_yes rfl rfl (dF hc6) ?_
   refine ops_y hH3 rfl rfl (yv_lss rfl rfl) ?_
   refine ops_y hH3 rfl rfl (yv_pick_f rfl (dF hc6) rfl) ?_
   refine oM hH3 rfl rfl ?_
   by_cases hc8 : e.d < 0
   ·skip
    refine guard_no rfl rfl (dT hc8) rfl ?_
    refine guard_no rfl rfl (dT hc8) rfl ?_
    refine guard_no rfl rfl (dT hc8) rfl ?_
    refine ops_y hH3 rfl rfl (yv_pick_t rfl (dT hc8) rfl) ?_
    refine ops_nil (thn_n ?_)
    refine cond_t rfl rfl ?_
    refine seq (region (oA hH3 rfl rfl (ops_nil (thn_n (ret (thn_r ?_))))))
    have hH9 := (hH3.sub (sC sR))
    refine fin hH9 (fun w' hf => (res1 rfl (show RV _ _ _ (.tmp 2) _ from rfl))) (fun w' hf => ?_)
    first | exact congrArg Value.bool (dT (show B.isEn e by unfold B.isEn; omega)).symm | exact congrArg Value.bool (dF (show ¬ B.isEn e by unfold B.isEn; omega)).symm | exact congrArg Value.bool (decide_eq_decide.2 (by unfold B.isEn; omega))
   ·skip
    refine guard_yes rfl rfl (dF hc8) ?_
    refine ops_y hH3 rfl rfl (yv_field T.f38_1 rfl) ?_
    refine guard_yes rfl rfl (dF hc8) ?_
    refine ops_y hH3 rfl rfl (yv_load T.one2 rfl (fun _ hw => Heap.cellw hw (n := 0) rfl rfl)) ?_
    refine guard_yes rfl rfl (dF hc8) ?_
    refine ops_y hH3 rfl rfl (yv_gtr rfl rfl) ?_
    refine ops_y hH3 rfl rfl (yv_pick_f rfl (dF hc8) rfl) ?_
    refine ops_nil (thn_n ?_)
    by_cases hc10 : 36500 < e.d
    ·skip
     refine cond_t rfl (dT hc10) ?_
     refine seq (region (oA hH3 rfl rfl (ops_nil (thn_n (ret (thn_r ?_))))))
     have hH11 := (hH3.sub (sC sR))
     refine fin hH11 (fun w' hf => (res1 rfl (show RV _ _ _ (.tmp 2) _ from rfl))) (fun w' hf => ?_)
     first | exact congrArg Value.bool (dT (show B.isEn e by unfold B.isEn; omega)).symm | exact congrArg Value.bool (dF (show ¬ B.isEn e by unfold B.isEn; omega)).symm | exact congrArg Value.bool (decide_eq_decide.2 (by unfold B.isEn; omega))
    ·skip
     refine cond_f rfl (dF hc10) ?_
     refine skip (thn_n (seq (region ?_)))
     refine ops_y hH3 rfl rfl (yv_field T.f38_2 rfl) ?_
     refine ops_y hH3 rfl rfl (yv_load T.one2 rfl (fun _ hw => Heap.cellw hw (n := 0) rfl rfl)) ?_
     refine ops_y hH3 rfl rfl (yv_geq rfl rfl) ?_
     refine oM hH3 rfl rfl ?_
     by_cases hc12 : 0 ≤ e.f
     ·skip
      refine guard_yes rfl rfl (dT hc12) ?_
      refine ops_y hH3 rfl rfl (yv_field T.f38_2 rfl) ?_
      refine guard_yes rfl rfl (dT hc12) ?_
      refine ops_y hH3 rfl rfl (yv_load T.one2 rfl (fun _ hw => Heap.cellw hw (n := 0) rfl rfl)) ?_
      refine guard_yes rfl rfl (dT hc12) ?_
      refine ops_y hH3 rfl rfl (yv_leq rfl rfl) ?_
      refine ops_y hH3 rfl rfl (yv_pick_t rfl (dT hc12) rfl) ?_
      refine oM hH3 rfl rfl ?_
      by_cases hc13 : e.f ≤ 9
      ·skip
       refine guard_yes rfl rfl (dT hc13) ?_
       refine ops_y hH3 rfl rfl (yv_field T.f38_3 rfl) ?_
       refine guard_yes rfl rfl (dT hc13) ?_
       refine ops_y hH3 rfl rfl (yv_load T.one2 rfl (fun _ hw => Heap.cellw hw (n := 0) rfl rfl)) ?_
       refine guard_yes rfl rfl (dT hc13) ?_
       refine ops_y hH3 rfl rfl (yv_geq rfl rfl) ?_
       refine ops_y hH3 rfl rfl (yv_pick_t rfl (dT hc13) rfl) ?_
       refine oM hH3 rfl rfl ?_
       by_cases hc14 : 0 ≤ e.t
       ·skip
        refine guard_yes rfl rfl (dT hc14) ?_
        refine ops_y hH3 rfl rfl (yv_field T.f38_3 rfl) ?_
        refine guard_yes rfl rfl (dT hc14) ?_
        refine ops_y hH3 rfl rfl (yv_load T.one2 rfl (fun _ hw => Heap.cellw hw (n := 0) rfl rfl)) ?_
        refine guard_yes rfl rfl (dT hc14) ?_
        refine ops_y hH3 rfl rfl (yv_leq rfl rfl) ?_
        refine ops_y hH3 rfl rfl (yv_pick_t rfl (dT hc14) rfl) ?_
        refine oM hH3 rfl rfl ?_
        by_cases hc15 : e.t ≤ 9
        ·skip
         refine guard_yes rfl rfl (dT hc15) ?_
         refine ops_y hH3 rfl rfl (yv_field T.f38_4 rfl) ?_
         refine guard_yes rfl rfl (dT hc15) ?_
         refine ops_y hH3 rfl rfl (yv_load T.one2 rfl (fun _ hw => Heap.cellw hw (n := 0) rfl rfl)) ?_
         refine guard_yes rfl rfl (dT hc15) ?_
         refine ops_y hH3 rfl rfl (yv_geq rfl rfl) ?_
         refine ops_y hH3 rfl rfl (yv_pick_t rfl (dT hc15) rfl) ?_
         refine oM hH3 rfl rfl ?_
         by_cases hc16 : 1 ≤ e.a
         ·skip
          refine guard_yes rfl rfl (dT hc16) ?_
          refine ops_y hH3 rfl rfl (yv_field T.f38_4 rfl) ?_
          refine guard_yes rfl rfl (dT hc16) ?_
          refine ops_y hH3 rfl rfl (yv_load T.one2 rfl (fun _ hw => Heap.cellw hw (n := 0) rfl rfl)) ?_
          refine guard_yes rfl rfl (dT hc16) ?_
          refine ops_y hH3 rfl rfl (yv_leq rfl rfl) ?_
          refine ops_y hH3 rfl rfl (yv_pick_t rfl (dT hc16) rfl) ?_
          refine oA hH3 rfl rfl (ops_nil (thn_n (ret ?_)))
          have hH17 := (hH3.sub (sC sR))
          refine fin hH17 (fun w' hf => (res1 rfl (show RV _ _ _ (.tmp 2) _ from rfl))) (fun w' hf => ?_)
          first | exact congrArg Value.bool (dT (show B.isEn e by unfold B.isEn; omega)).symm | exact congrArg Value.bool (dF (show ¬ B.isEn e by unfold B.isEn; omega)).symm | exact congrArg Value.bool (decide_eq_decide.2 (by unfold B.isEn; omega))
         ·skip
          refine guard_no rfl rfl (dF hc16) rfl ?_
          refine guard_no rfl rfl (dF hc16) rfl ?_
          refine guard_no rfl rfl (dF hc16) rfl ?_
          refine ops_y hH3 rfl rfl (yv_pick_f rfl (dF hc16) rfl) ?_
          refine oA hH3 rfl rfl (ops_nil (thn_n (ret ?_)))
          have hH18 := (hH3.sub (sC sR))
          refine fin hH18 (fun w' hf => (res1 rfl (show RV _ _ _ (.tmp 2) _ from rfl))) (fun w' hf => ?_)
          first | exact congrArg Value.bool (dT (show B.isEn e by unfold B.isEn; omega)).symm | exact congrArg Value.bool (dF (show ¬ B.isEn e by unfold B.isEn; omega)).symm | exact congrArg Value.bool (decide_eq_decide.2 (by unfold B.isEn; omega))
        ·skip
         refine guard_no rfl rfl (dF hc15) rfl ?_
         refine guard_no rfl rfl (dF hc15) rfl ?_
         refine guard_no rfl rfl (dF hc15) rfl ?_
         refine ops_y hH3 rfl rfl (yv_pick_f rfl (dF hc15) rfl) ?_
         refine oM hH3 rfl rfl (guard_no rfl rfl rfl rfl (guard_no rfl rfl rfl rfl (guard_no rfl rfl rfl rfl ?_)))
         refine ops_y hH3 rfl rfl (yv_pick_f rfl rfl rfl) ?_
         refine oA hH3 rfl rfl (ops_nil (thn_n (ret ?_)))
         have hH19 := (hH3.sub (sC sR))
         refine fin hH19 (fun w' hf => (res1 rfl (show RV _ _ _ (.tmp 2) _ from rfl))) (fun w' hf => ?_)
         first | exact congrArg Value.bool (dT (show B.isEn e by unfold B.isEn; omega)).symm | exact congrArg Value.bool (dF (show ¬ B.isEn e by unfold B.isEn; omega)).symm | exact congrArg Value.bool (decide_eq_decide.2 (by unfold B.isEn; omega))
       ·skip
        refine guard_no rfl rfl (dF hc14) rfl ?_
        refine guard_no rfl rfl (dF hc14) rfl ?_
        refine guard_no rfl rfl (dF hc14) rfl ?_
        refine ops_y hH3 rfl rfl (yv_pick_f rfl (dF hc14) rfl) ?_
        refine oM hH3 rfl rfl (guard_no rfl rfl rfl rfl (guard_no rfl rfl rfl rfl (guard_no rfl rfl rfl rfl ?_)))
        refine ops_y hH3 rfl rfl (yv_pick_f rfl rfl rfl) ?_
        refine oM hH3 rfl rfl (guard_no rfl rfl rfl rfl (guard_no rfl rfl rfl rfl (guard_no rfl rfl rfl rfl ?_)))
        refine ops_y hH3 rfl rfl (yv_pick_f rfl rfl rfl) ?_
        refine oA hH3 rfl rfl (ops_nil (thn_n (ret ?_)))
        have hH20 := (hH3.sub (sC sR))
        refine fin hH20 (fun w' hf => (res1 rfl (show RV _ _ _ (.tmp 2) _ from rfl))) (fun w' hf => ?_)
        first | exact congrArg Value.bool (dT (show B.isEn e by unfold B.isEn; omega)).symm | exact congrArg Value.bool (dF (show ¬ B.isEn e by unfold B.isEn; omega)).symm | exact congrArg Value.bool (decide_eq_decide.2 (by unfold B.isEn; omega))
      ·skip
       refine guard_no rfl rfl (dF hc13) rfl ?_
       refine guard_no rfl rfl (dF hc13) rfl ?_
       refine guard_no rfl rfl (dF hc13) rfl ?_
       refine ops_y hH3 rfl rfl (yv_pick_f rfl (dF hc13) rfl) ?_
       refine oM hH3 rfl rfl (guard_no rfl rfl rfl rfl (guard_no rfl rfl rfl rfl (guard_no rfl rfl rfl rfl ?_)))
       refine ops_y hH3 rfl rfl (yv_pick_f rfl rfl rfl) ?_
       refine oM hH3 rfl rfl (guard_no rfl rfl rfl rfl (guard_no rfl rfl rfl rfl (guard_no rfl rfl rfl rfl ?_)))
       refine ops_y hH3 rfl rfl (yv_pick_f rfl rfl rfl) ?_
       refine oM hH3 rfl rfl (guard_no rfl rfl rfl rfl (guard_no rfl rfl rfl rfl (guard_no rfl rfl rfl rfl ?_)))
       refine ops_y hH3 rfl rfl (yv_pick_f rfl rfl rfl) ?_
       refine oA hH3 rfl rfl (ops_nil (thn_n (ret ?_)))
       have hH21 := (hH3.sub (sC sR))
       refine fin hH21 (fun w' hf => (res1 rfl (show RV _ _ _ (.tmp 2) _ from rfl))) (fun w' hf => ?_)
       first | exact congrArg Value.bool (dT (show B.isEn e by unfold B.isEn; omega)).symm | exact congrArg Value.bool (dF (show ¬ B.isEn e by unfold B.isEn; omega)).symm | exact congrArg Value.bool (decide_eq_decide.2 (by unfold B.isEn; omega))
     ·skip
      refine guard_no rfl rfl (dF hc12) rfl ?_
      refine guard_no rfl rfl (dF hc12) rfl ?_
      refine guard_no rfl rfl (dF hc12) rfl ?_
      refine ops_y hH3 rfl rfl (yv_pick_f rfl (dF hc12) rfl) ?_
      refine oM hH3 rfl rfl (guard_no rfl rfl rfl rfl (guard_no rfl rfl rfl rfl (guard_no rfl rfl rfl rfl ?_)))
      refine ops_y hH3 rfl rfl (yv_pick_f rfl rfl rfl) ?_
      refine oM hH3 rfl rfl (guard_no rfl rfl rfl rfl (guard_no rfl rfl rfl rfl (guard_no rfl rfl rfl rfl ?_)))
      refine ops_y hH3 rfl rfl (yv_pick_f rfl rfl rfl) ?_
      refine oM hH3 rfl rfl (guard_no rfl rfl rfl rfl (guard_no rfl rfl rfl rfl (guard_no rfl rfl rfl rfl ?_)))
      refine ops_y hH3 rfl rfl (yv_pick_f rfl rfl rfl) ?_
      refine oM hH3 rfl rfl (guard_no rfl rfl rfl rfl (guard_no rfl rfl rfl rfl (guard_no rfl rfl rfl rfl ?_)))
      refine ops_y hH3 rfl rfl (yv_pick_f rfl rfl rfl) ?_
      refine oA hH3 rfl rfl (ops_nil (thn_n (ret ?_)))
      have hH22 := (hH3.sub (sC sR))
      refine fin hH22 (fun w' hf => (res1 rfl (show RV _ _ _ (.tmp 2) _ from rfl))) (fun w' hf => ?_)
      first | exact congrArg Value.bool (dT (show B.isEn e by unfold B.isEn; omega)).symm | exact congrArg Value.bool (dF (show ¬ B.isEn e by unfold B.isEn; omega)).symm | exact congrArg Value.bool (decide_eq_decide.2 (by unfold B.isEn; omega))
theorem c45 {e : En} {w : World}  :
  Fn Tryz.prog 45 [(.agg #[(.int .i64 e.n), (.int .i64 e.d), (.int .i64 e.f), (.int .i64 e.t), (.int .i64 e.a)])].toArray w (fun u _ => u = .int .i64 (B.ckE e)) := by
 refine fn_of' (args := [(.agg #[(.int .i64 e.n), (.int .i64 e.d), (.int .i64 e.f), (.int .i64 e.t), (.int .i64 e.a)])]) Tryz.func45 rfl (ent Tryz.func45 (by kernel_rfl) rfl) rfl rfl (fun hH => ?_)
 refine seq (region ?_)
 refine op_box (us := [(.int .i64 e.n), (.int .i64 e.d), (.int .i64 e.f), (.int .i64 e.t), (.int .i64 e.a)]) rfl rfl rfl hH (fun b1 w2 hH3 => ?_)
 refine oA hH3 rfl rfl (ops_nil (thn_n (seq (seq (region ?_)))))
 refine ops_y hH3 rfl rfl (yv_loadA (cs := [(.int .i64 e.n), (.int .i64 e.d), (.int .i64 e.f), (.int .i64 e.t), (.int .i64 e.a)]) T.agg38 rfl rfl (fun _ hw => Heap.cellsw hw (n := 0) rfl (k := 0) rfl)) ?_
 refine op_fnV rfl rfl rfl hH3 (c66 ) (fun w4 hH5 => ?_)
 refine ops_y hH5 rfl rfl (yv_not rfl) ?_
 refine ops_nil (thn_n ?_)
 by_cases hc6 : B.isEn e
 ·skip
  refine cond_f rfl (not_decide_n hc6) ?_
  refine skip (thn_n (seq (seq (region ?_))))
  refine ops_y hH5 rfl rfl (yv_field T.f38_2 rfl) ?_
  refine ops_y hH5 rfl rfl (yv_load T.one2 rfl (fun _ hw => Heap.cellw hw (n := 0) rfl rfl)) ?_
  refine ops_y hH5 rfl rfl (yv_field T.f38_3 rfl) ?_
  refine ops_y hH5 rfl rfl (yv_load T.one2 rfl (fun _ hw => Heap.cellw hw (n := 0) rfl rfl)) ?_
  refine ops_y hH5 rfl rfl (yv_eql rfl rfl) ?_
  refine ops_nil (thn_n ?_)
  by_cases hc7 : e.f = e.t
  ·skip
   refine cond_t rfl (dT hc7) ?_
   refine seq (region (oA hH5 rfl rfl (ops_nil (thn_n (ret (thn_r ?_))))))
   have hH8 := (hH5.sub (sC sR))
   refine fin hH8 (fun w' hf => (res1 rfl (show RV _ _ _ (.tmp 2) _ from rfl))) (fun w' hf => ?_)
   first | exact congrArg (Value.int .i64) (show _ = B.ckE e by unfold B.ckE; (repeat split) <;> first | rfl | omega | (exfalso; simp_all; done))
  ·skip
   refine cond_f rfl (dF hc7) ?_
   refine skip (thn_n (seq (region (oA hH5 rfl rfl (ops_nil (thn_n (ret ?_)))))))
   have hH9 := (hH5.sub (sC sR))
   refine fin hH9 (fun w' hf => (res1 rfl (show RV _ _ _ (.tmp 2) _ from rfl))) (fun w' hf => ?_)
   first | exact congrArg (Value.int .i64) (show _ = B.ckE e by unfold B.ckE; (repeat split) <;> first | rfl | omega | (exfalso; simp_all; done))
 ·skip
  refine cond_t rfl (not_decide_t hc6) ?_
  refine seq (region (oA hH5 rfl rfl (ops_nil (thn_n (ret (thn_r ?_))))))
  have hH10 := (hH5.sub (sC sR))
  refine fin hH10 (fun w' hf => (res1 rfl (show RV _ _ _ (.tmp 2) _ from rfl))) (fun w' hf => ?_)
  first | exact congrArg (Value.int .i64) (show _ = B.ckE e by unfold B.ckE; (repeat split) <;> first | rfl | omega | (exfalso; simp_all; done))
theorem c67 {a b : En} {w : World}  :
  Fn Tryz.prog 67 [(.agg #[(.int .i64 a.n), (.int .i64 a.d), (.int .i64 a.f), (.int .i64 a.t), (.int .i64 a.a)]), (.agg #[(.int .i64 b.n), (.int .i64 b.d), (.int .i64 b.f), (.int .i64 b.t), (.int .i64 b.a)])].toArray w (fun u _ => u = .bool (decide (B.bef a b))) := by
 refine fn_of' (args := [(.agg #[(.int .i64 a.n), (.int .i64 a.d), (.int .i64 a.f), (.int .i64 a.t), (.int .i64 a.a)]), (.agg #[(.int .i64 b.n), (.int .i64 b.d), (.int .i64 b.f), (.int .i64 b.t), (.int .i64 b.a)])]) Tryz.func67 rfl (ent Tryz.func67 (by kernel_rfl) rfl) rfl rfl (fun hH => ?_)
 refine seq (region ?_)
 refine op_box (us := [(.int .i64 a.n), (.int .i64 a.d), (.int .i64 a.f), (.int .i64 a.t), (.int .i64 a.a)]) rfl rfl rfl hH (fun b1 w2 hH3 => ?_)
 refine op_box (us := [(.int .i64 b.n), (.int .i64 b.d), (.int .i64 b.f), (.int .i64 b.t), (.int .i64 b.a)]) rfl rfl rfl hH3 (fun b4 w5 hH6 => ?_)
 refine oA hH6 rfl rfl (ops_nil (thn_n (seq (region ?_))))
 refine ops_y hH6 rfl rfl (yv_field T.f38_1 rfl) ?_
 refine ops_y hH6 rfl rfl (yv_load T.one2 rfl (fun _ hw => Heap.cellw hw (n := 1) rfl rfl)) ?_
 refine ops_y hH6 rfl rfl (yv_field T.f38_1 rfl) ?_
 refine ops_y hH6 rfl rfl (yv_load T.one2 rfl (fun _ hw => Heap.cellw hw (n := 0) rfl rfl)) ?_
 refine ops_y hH6 rfl rfl (yv_lss rfl rfl) ?_
 refine oM hH6 rfl rfl ?_
 by_cases hc7 : a.d < b.d
 ·skip
  refine guard_no rfl rfl (dT hc7) rfl ?_
  refine guard_no rfl rfl (dT hc7) rfl ?_
  refine guard_no rfl rfl (dT hc7) rfl ?_
  refine guard_no rfl rfl (dT hc7) rfl ?_
  refine guard_no rfl rfl (dT hc7) rfl ?_
  refine guard_no rfl rfl (dT hc7) rfl ?_
  refine guard_none rfl rfl rfl ?_
  refine guard_none rfl rfl rfl ?_
  refine guard_none rfl rfl rfl ?_
  refine guard_none rfl rfl rfl ?_
  refine guard_none rfl rfl rfl ?_
  refine guard_no rfl rfl (dT hc7) rfl ?_
  refine ops_y hH6 rfl rfl (yv_pick_t rfl (dT hc7) rfl) ?_
  refine oA hH6 rfl rfl (ops_nil (thn_n (ret ?_)))
  have hH8 := (hH6.sub (sC (sC sR)))
  refine fin hH8 (fun w' hf => (res1 rfl (show RV _ _ _ (.tmp 4) _ from rfl))) (fun w' hf => ?_)
  first | exact congrArg Value.bool (dT (show B.bef a b by unfold B.bef; omega)).symm | exact congrArg Value.bool (dF (show ¬ B.bef a b by unfold B.bef; omega)).symm | exact congrArg Value.bool (decide_eq_decide.2 (by unfold B.bef; omega))
 ·skip
  refine guard_yes rfl rfl (dF hc7) ?_
  refine ops_y hH6 rfl rfl (yv_field T.f38_1 rfl) ?_
  refine guard_yes rfl rfl (dF hc7) ?_
  refine ops_y hH6 rfl rfl (yv_load T.one2 rfl (fun _ hw => Heap.cellw hw (n := 1) rfl rfl)) ?_
  refine guard_yes rfl rfl (dF hc7) ?_
  refine ops_y hH6 rfl rfl (yv_field T.f38_1 rfl) ?_
  refine guard_yes rfl rfl (dF hc7) ?_
  refine ops_y hH6 rfl rfl (yv_load T.one2 rfl (fun _ hw => Heap.cellw hw (n := 0) rfl rfl)) ?_
  refine guard_yes rfl rfl (dF hc7) ?_
  refine ops_y hH6 rfl rfl (yv_eql rfl rfl) ?_
  refine guard_yes rfl rfl (dF hc7) ?_
  refine oM hH6 rfl rfl ?_
  by_cases hc9 : a.d = b.d
  ·skip
   refine guard_yes rfl rfl (dT hc9) ?_
   refine ops_y hH6 rfl rfl (yv_field T.f38_0 rfl) ?_
   refine guard_yes rfl rfl (dT hc9) ?_
   refine ops_y hH6 rfl rfl (yv_load T.one2 rfl (fun _ hw => Heap.cellw hw (n := 1) rfl rfl)) ?_
   refine guard_yes rfl rfl (dT hc9) ?_
   refine ops_y hH6 rfl rfl (yv_field T.f38_0 rfl) ?_
   refine guard_yes rfl rfl (dT hc9) ?_
   refine ops_y hH6 rfl rfl (yv_load T.one2 rfl (fun _ hw => Heap.cellw hw (n := 0) rfl rfl)) ?_
   refine guard_yes rfl rfl (dT hc9) ?_
   refine ops_y hH6 rfl rfl (yv_lss rfl rfl) ?_
   refine guard_yes rfl rfl (dF hc7) ?_
   refine ops_y hH6 rfl rfl (yv_pick_t rfl (dT hc9) rfl) ?_
   refine ops_y hH6 rfl rfl (yv_pick_f rfl (dF hc7) rfl) ?_
   refine oA hH6 rfl rfl (ops_nil (thn_n (ret ?_)))
   have hH10 := (hH6.sub (sC (sC sR)))
   refine fin hH10 (fun w' hf => (res1 rfl (show RV _ _ _ (.tmp 4) _ from rfl))) (fun w' hf => ?_)
   first | exact congrArg Value.bool (dT (show B.bef a b by unfold B.bef; omega)).symm | exact congrArg Value.bool (dF (show ¬ B.bef a b by unfold B.bef; omega)).symm | exact congrArg Value.bool (decide_eq_decide.2 (by unfold B.bef; omega))
  ·skip
   refine guard_no rfl rfl (dF hc9) rfl ?_
   refine guard_no rfl rfl (dF hc9) rfl ?_
   refine guard_no rfl rfl (dF hc9) rfl ?_
   refine guard_no rfl rfl (dF hc9) rfl ?_
   refine guard_no rfl rfl (dF hc9) rfl ?_
   refine guard_yes rfl rfl (dF hc7) ?_
   refine ops_y hH6 rfl rfl (yv_pick_f rfl (dF hc9) rfl) ?_
   refine ops_y hH6 rfl rfl (yv_pick_f rfl (dF hc7) rfl) ?_
   refine oA hH6 rfl rfl (ops_nil (thn_n (ret ?_)))
   have hH11 := (hH6.sub (sC (sC sR)))
   refine fin hH11 (fun w' hf => (res1 rfl (show RV _ _ _ (.tmp 4) _ from rfl))) (fun w' hf => ?_)
   first | exact congrArg Value.bool (dT (show B.bef a b by unfold B.bef; omega)).symm | exact congrArg Value.bool (dF (show ¬ B.bef a b by unfold B.bef; omega)).symm | exact congrArg Value.bool (decide_eq_decide.2 (by unfold B.bef; omega))
theorem c22 {v : Value} {l : List En} {w : World} (h0 : Rd encE 5 v l w) (hn : l.length ≤ 1000000)  :
  Fn Tryz.prog 22 [(.agg #[v])].toArray w (fun u _ => u = .int .i64 (B.ck l)) := by
 refine fn_of' (args := [(.agg #[v])]) Tryz.func22 rfl (ent Tryz.func22 (by kernel_rfl) rfl) rfl rfl (fun hH => ?_)
 refine seq (region ?_)
 refine op_box (us := [v]) rfl rfl rfl hH (fun b1 w2 hH3 => ?_)
 refine oA hH3 rfl rfl (ops_nil (thn_n (seq (region ?_))))
 refine ops_y hH3 rfl rfl (yv_field T.f24_0 rfl) ?_
 refine ops_y hH3 rfl rfl (yv_load T.one22 rfl (fun _ hw => Heap.cellw hw (n := 0) rfl rfl)) ?_
 refine oA hH3 rfl rfl (ops_nil (thn_n (seq (seq (region (oM hH3 rfl rfl ?_))))))
 refine ops_y hH3 rfl rfl (yv_len T.sl22 rfl (h0.now hH3 (n := 1) rfl).is) ?_
 refine ops_y hH3 rfl rfl (yv_gtr rfl rfl) ?_
 refine ops_nil (thn_n ?_)
 by_cases hc4 : 24 < (l.length : Int)
 ·skip
  refine cond_t rfl (dT hc4) ?_
  refine seq (region (oA hH3 rfl rfl (ops_nil (thn_n (ret (thn_r ?_))))))
  have hH5 := (hH3.sub (sC sR))
  refine fin hH5 (fun w' hf => (res1 rfl (show RV _ _ _ (.tmp 2) _ from rfl))) (fun w' hf => ?_)
  first | exact congrArg (Value.int .i64) (B.ck1 (by omega)).symm | exact congrArg (Value.int .i64) (B.ck2 (by omega) hnr).symm | exact congrArg (Value.int .i64) (B.ck3 (by omega) hin hns).symm | exact congrArg (Value.int .i64) (B.ck4 (by omega) hin hself hnd).symm | exact congrArg (Value.int .i64) (B.ck5 (by omega) hin hself hdup hno).symm | exact congrArg (Value.int .i64) (B.ck6 (by omega) hin hself hdup hord).symm
 ·skip
  refine cond_f rfl (dF hc4) ?_
  refine skip (thn_n (seq (seq (region (oA hH3 rfl rfl (ops_nil (thn_n (block ?_))))))))
  refine loop (S := Nat) (fun k => [(4, (.int .i64 (k : Int))), (3, v)]) (fun k w1 => Heap [bx b1 24 [v], base w] w1 ∧ k ≤ l.length ∧ ∀ i, i < k → B.isEn (nth l (i : Int))) (fun k => l.length - k) (0) (uC rfl (uC rfl (Sub.nil _))) ?_ ?_
  ·exact ⟨hH3, by omega, B.all_zero⟩
  ·rintro k w6 ⟨hH7, hk, hall⟩
   show Holds _ _ _ _ _ [(4, (.int .i64 (k : Int))), (3, v)] _ _
   refine seq (seq (region (oM hH7 rfl rfl (oM hH7 rfl rfl ?_))))
   refine ops_y hH7 rfl rfl (yv_len T.sl22 rfl (h0.now hH7 (n := 1) rfl).is) ?_
   refine ops_y hH7 rfl rfl (yv_lss rfl rfl) ?_
   refine ops_nil (thn_n ?_)
   by_cases hc8 : (k : Int) < (l.length : Int)
   ·skip
    refine cond_t rfl (dT hc8) ?_
    refine skip (thn_n (seq (block (seq (region (oM hH7 rfl rfl (oM hH7 rfl rfl ?_)))))))
    refine ops_y hH7 rfl rfl (yv_index T.sl22 rfl rfl (h0.now hH7 (n := 1) rfl).is (by omega)) ?_
    refine ops_y hH7 rfl rfl (yv_loadA (cs := [(.int .i64 ((nth l (k : Int)).n)), (.int .i64 ((nth l (k : Int)).d)), (.int .i64 ((nth l (k : Int)).f)), (.int .i64 ((nth l (k : Int)).t)), (.int .i64 ((nth l (k : Int)).a))]) T.agg38 rfl rfl (fun _ hw => Rd.atA (h0.now hw (n := 1) rfl) (i := (k : Int)) (by omega))) ?_
    refine op_fnV rfl rfl rfl hH7 (c66 ) (fun w9 hH10 => ?_)
    refine ops_y hH10 rfl rfl (yv_not rfl) ?_
    refine ops_nil (thn_n ?_)
    by_cases hc11 : B.isEn (nth l (k : Int))
    ·skip
     refine cond_f rfl (not_decide_n hc11) ?_
     refine skip (blk_n (thn_n (region (oM hH10 rfl rfl ?_))))
     refine ops_y hH10 rfl rfl (yv_add rfl rfl (by omega)) ?_
     refine oA hH10 rfl rfl (ops_nil ?_)
     refine lp_n (k + 1) (uC rfl (uC rfl (Sub.nil _))) ?_ ?_
     ·exact ⟨hH10, by omega, B.all_snoc hall ‹_›⟩
     ·first | (dsimp only; omega) | (show _ < _; omega)
    ·skip
     have hnr : ¬ B.InR l := fun h => absurd (h k (by omega)) ‹_›
     refine cond_t rfl (not_decide_t hc11) ?_
     refine seq (region (oA hH10 rfl rfl (ops_nil (thn_n (ret (blk_r (thn_r (lp_r (blk_r ?_)))))))))
     refine thn_r ?_
     have hH12 := (hH10.sub (sC sR))
     refine fin hH12 (fun w' hf => (res1 rfl (show RV _ _ _ (.tmp 2) _ from rfl))) (fun w' hf => ?_)
     first | exact congrArg (Value.int .i64) (B.ck1 (by omega)).symm | exact congrArg (Value.int .i64) (B.ck2 (by omega) hnr).symm | exact congrArg (Value.int .i64) (B.ck3 (by omega) hin hns).symm | exact congrArg (Value.int .i64) (B.ck4 (by omega) hin hself hnd).symm | exact congrArg (Value.int .i64) (B.ck5 (by omega) hin hself hdup hno).symm | exact congrArg (Value.int .i64) (B.ck6 (by omega) hin hself hdup hord).symm
   ·skip
    have hin : B.InR l := fun i hi => hall i (by omega)
    refine cond_f rfl (dF hc8) ?_
    refine exit (thn_x (lp_x (blk_here (thn_n (seq (seq (region (oA hH7 rfl rfl (ops_nil ?_)))))))))
    refine thn_n (block ?_)
    refine loop (S := Nat) (fun k => [(5, (.int .i64 (k : Int))), (3, v)]) (fun k w1 => Heap [bx b1 24 [v], base w] w1 ∧ k ≤ l.length ∧ ∀ i, i < k → ¬ (nth l (i : Int)).f = (nth l (i : Int)).t) (fun k => l.length - k) (0) (uC rfl (uC rfl (Sub.nil _))) ?_ ?_
    ·exact ⟨hH7, by omega, B.all_zero⟩
    ·rintro k w13 ⟨hH14, hk, hall⟩
     show Holds _ _ _ _ _ [(5, (.int .i64 (k : Int))), (3, v)] _ _
     refine seq (seq (region (oM hH14 rfl rfl (oM hH14 rfl rfl ?_))))
     refine ops_y hH14 rfl rfl (yv_len T.sl22 rfl (h0.now hH14 (n := 1) rfl).is) ?_
     refine ops_y hH14 rfl rfl (yv_lss rfl rfl) ?_
     refine ops_nil (thn_n ?_)
     by_cases hc15 : (k : Int) < (l.length : Int)
     ·skip
      refine cond_t rfl (dT hc15) ?_
      refine skip (thn_n (seq (block (seq ?_))))
      refine region_draw (fun w' => Heap [bx b1 24 [v], base w] w') T.mixed (fun w16 hr17 => ?_)
      have hH18 := hH14.redrawn hr17
      refine any_takes [0, 1, 2, 3, 4, 5, 6, 7, 8, 9, 10] (by kernel_rfl) hH18 _ _ _ (by kernel_rfl) ?_
      refine qM rfl rfl rfl (qM rfl rfl rfl ?_)
      refine qs_y rfl rfl (yv_index T.sl22 rfl rfl (h0.now hH18 (n := 1) rfl).is (by omega)) ?_
      refine qs_y rfl rfl (yv_field T.f38_2 rfl) ?_
      refine qs_y rfl rfl (yv_load T.one2 rfl (fun _ hw => Rd.at (h0.now hw (n := 1) rfl) (i := (k : Int)) (by omega) (j := 2) rfl)) ?_
      refine qM rfl rfl rfl (qM rfl rfl rfl ?_)
      refine qs_y rfl rfl (yv_index T.sl22 rfl rfl (h0.now hH18 (n := 1) rfl).is (by omega)) ?_
      refine qs_y rfl rfl (yv_field T.f38_3 rfl) ?_
      refine qs_y rfl rfl (yv_load T.one2 rfl (fun _ hw => Rd.at (h0.now hw (n := 1) rfl) (i := (k : Int)) (by omega) (j := 3) rfl)) ?_
      refine qs_y rfl rfl (yv_eql rfl rfl) ?_
      refine qs_nil ?_
      refine any_done (by kernel_rfl) ?_
      refine thn_n ?_
      by_cases hc19 : ((nth l (k : Int)).f) = ((nth l (k : Int)).t)
      ·skip
       have hns : ¬ B.NoSelf l := fun h => absurd ‹_› (h k (by omega))
       refine cond_t rfl (dT hc19) ?_
       refine seq (region (oA hH18 rfl rfl (ops_nil (thn_n (ret (blk_r (thn_r (lp_r (blk_r ?_)))))))))
       refine thn_r ?_
       have hH20 := (hH18.sub (sC sR))
       refine fin hH20 (fun w' hf => (res1 rfl (show RV _ _ _ (.tmp 2) _ from rfl))) (fun w' hf => ?_)
       first | exact congrArg (Value.int .i64) (B.ck1 (by omega)).symm | exact congrArg (Value.int .i64) (B.ck2 (by omega) hnr).symm | exact congrArg (Value.int .i64) (B.ck3 (by omega) hin hns).symm | exact congrArg (Value.int .i64) (B.ck4 (by omega) hin hself hnd).symm | exact congrArg (Value.int .i64) (B.ck5 (by omega) hin hself hdup hno).symm | exact congrArg (Value.int .i64) (B.ck6 (by omega) hin hself hdup hord).symm
      ·skip
       refine cond_f rfl (dF hc19) ?_
       refine skip (blk_n (thn_n (region (oM hH18 rfl rfl ?_))))
       refine ops_y hH18 rfl rfl (yv_add rfl rfl (by omega)) ?_
       refine oA hH18 rfl rfl (ops_nil ?_)
       refine lp_n (k + 1) (uC rfl (uC rfl (Sub.nil _))) ?_ ?_
       ·exact ⟨hH18, by omega, B.all_snoc hall ‹_›⟩
       ·first | (dsimp only; omega) | (show _ < _; omega)
     ·skip
      have hself : B.NoSelf l := fun i hi => hall i (by omega)
      refine cond_f rfl (dF hc15) ?_
      refine exit (thn_x (lp_x (blk_here (thn_n (seq (seq (region (oA hH14 rfl rfl (ops_nil ?_)))))))))
      refine thn_n (block ?_)
      refine loop (S := Nat) (fun i => [(6, (.int .i64 (i : Int))), (3, v)]) (fun i w1 => Heap [bx b1 24 [v], base w] w1 ∧ i ≤ l.length ∧ ∀ i2, i2 < i → ∀ k, k < i2 → ¬ (nth l (k : Int)).n = (nth l (i2 : Int)).n) (fun i => l.length - i) (0) (uC rfl (uC rfl (Sub.nil _))) ?_ ?_
      ·exact ⟨hH14, by omega, B.all_zero⟩
      ·rintro i w21 ⟨hH22, hi, hall2⟩
       show Holds _ _ _ _ _ [(6, (.int .i64 (i : Int))), (3, v)] _ _
       refine seq (seq (region (oM hH22 rfl rfl (oM hH22 rfl rfl ?_))))
       refine ops_y hH22 rfl rfl (yv_len T.sl22 rfl (h0.now hH22 (n := 1) rfl).is) ?_
       refine ops_y hH22 rfl rfl (yv_lss rfl rfl) ?_
       refine ops_nil (thn_n ?_)
       by_cases hc23 : (i : Int) < (l.length : Int)
       ·skip
        refine cond_t rfl (dT hc23) ?_
        refine skip (thn_n (seq (block (seq (region (oA hH22 rfl rfl (ops_nil (thn_n (block ?_)))))))))
        refine loop (S := Nat) (fun m => [(7, (.int .i64 (m : Int))), (3, v), (6, (.int .i64 (i : Int)))]) (fun m w1 => Heap [bx b1 24 [v], base w] w1 ∧ m ≤ i ∧ ∀ k, k < m → ¬ (nth l (k : Int)).n = (nth l (i : Int)).n) (fun m => i - m) (0) (uC rfl (uC rfl (uC rfl (Sub.nil _)))) ?_ ?_
        ·exact ⟨hH22, by omega, B.all_zero⟩
        ·rintro m w24 ⟨hH25, hm, hall3⟩
         show Holds _ _ _ _ _ [(7, (.int .i64 (m : Int))), (3, v), (6, (.int .i64 (i : Int)))] _ _
         refine seq (seq (region (oM hH25 rfl rfl (oM hH25 rfl rfl ?_))))
         refine ops_y hH25 rfl rfl (yv_lss rfl rfl) ?_
         refine ops_nil (thn_n ?_)
         by_cases hc26 : (m : Int) < (i : Int)
         ·skip
          refine cond_t rfl (dT hc26) ?_
          refine skip (thn_n (seq (block (seq ?_))))
          refine region_draw (fun w' => Heap [bx b1 24 [v], base w] w') T.mixed (fun w27 hr28 => ?_)
          have hH29 := hH25.redrawn hr28
          refine any_takes [0, 1, 2, 3, 4, 5, 6, 7, 8, 9, 10] (by kernel_rfl) hH29 _ _ _ (by kernel_rfl) ?_
          refine qM rfl rfl rfl (qM rfl rfl rfl ?_)
          refine qs_y rfl rfl (yv_index T.sl22 rfl rfl (h0.now hH29 (n := 1) rfl).is (by omega)) ?_
          refine qs_y rfl rfl (yv_field T.f38_0 rfl) ?_
          refine qs_y rfl rfl (yv_load T.one2 rfl (fun _ hw => Rd.at (h0.now hw (n := 1) rfl) (i := (m : Int)) (by omega) (j := 0) rfl)) ?_
          refine qM rfl rfl rfl (qM rfl rfl rfl ?_)
          refine qs_y rfl rfl (yv_index T.sl22 rfl rfl (h0.now hH29 (n := 1) rfl).is (by omega)) ?_
          refine qs_y rfl rfl (yv_field T.f38_0 rfl) ?_
          refine qs_y rfl rfl (yv_load T.one2 rfl (fun _ hw => Rd.at (h0.now hw (n := 1) rfl) (i := (i : Int)) (by omega) (j := 0) rfl)) ?_
          refine qs_y rfl rfl (yv_eql rfl rfl) ?_
          refine qs_nil ?_
          refine any_done (by kernel_rfl) ?_
          refine thn_n ?_
          by_cases hc30 : ((nth l (m : Int)).n) = ((nth l (i : Int)).n)
          ·skip
           have hnd : ¬ B.NoDup l := fun h => h i (by omega) m (by omega) ‹_›
           refine cond_t rfl (dT hc30) ?_
           refine seq (region (oA hH29 rfl rfl (ops_nil (thn_n (ret (blk_r (thn_r (lp_r (blk_r ?_)))))))))
           refine blk_r (thn_r (lp_r (blk_r (thn_r ?_))))
           have hH31 := (hH29.sub (sC sR))
           refine fin hH31 (fun w' hf => (res1 rfl (show RV _ _ _ (.tmp 2) _ from rfl))) (fun w' hf => ?_)
           first | exact congrArg (Value.int .i64) (B.ck1 (by omega)).symm | exact congrArg (Value.int .i64) (B.ck2 (by omega) hnr).symm | exact congrArg (Value.int .i64) (B.ck3 (by omega) hin hns).symm | exact congrArg (Value.int .i64) (B.ck4 (by omega) hin hself hnd).symm | exact congrArg (Value.int .i64) (B.ck5 (by omega) hin hself hdup hno).symm | exact congrArg (Value.int .i64) (B.ck6 (by omega) hin hself hdup hord).symm
          ·skip
           refine cond_f rfl (dF hc30) ?_
           refine skip (blk_n (thn_n (region (oM hH29 rfl rfl ?_))))
           refine ops_y hH29 rfl rfl (yv_add rfl rfl (by omega)) ?_
           refine oA hH29 rfl rfl (ops_nil ?_)
           refine lp_n (m + 1) (uC rfl (uC rfl (uC rfl (Sub.nil _)))) ?_ ?_
           ·exact ⟨hH29, by omega, B.all_snoc hall3 ‹_›⟩
           ·first | (dsimp only; omega) | (show _ < _; omega)
         ·skip
          refine cond_f rfl (dF hc26) ?_
          refine exit (thn_x (lp_x (blk_here (blk_n (thn_n (region (oM hH25 rfl rfl ?_)))))))
          refine ops_y hH25 rfl rfl (yv_add rfl rfl (by omega)) ?_
          refine oA hH25 rfl rfl (ops_nil ?_)
          refine lp_n (i + 1) (uC rfl (uC rfl (Sub.nil _))) ?_ ?_
          ·exact ⟨hH25, by omega, B.all_snoc hall2 (fun k hk => hall3 k (by omega))⟩
          ·first | (dsimp only; omega) | (show _ < _; omega)
       ·skip
        have hdup : B.NoDup l := fun i2 hi2 => hall2 i2 (by omega)
        refine cond_f rfl (dF hc23) ?_
        refine exit (thn_x (lp_x (blk_here (thn_n (seq (seq (region (oA hH22 rfl rfl (ops_nil ?_)))))))))
        refine thn_n (block ?_)
        refine loop (S := Nat) (fun j => [(8, (.int .i64 (j : Int))), (3, v)]) (fun j w1 => Heap [bx b1 24 [v], base w] w1 ∧ 1 ≤ j ∧ (j ≤ l.length ∨ j = 1) ∧ ∀ i, i < j → 1 ≤ i → B.bef (nth l ((i : Int) - 1)) (nth l (i : Int))) (fun j => l.length - j) (1) (uC rfl (uC rfl (Sub.nil _))) ?_ ?_
        ·exact ⟨hH22, by omega, by omega, fun i h1 h2 => by omega⟩
        ·rintro j w32 ⟨hH33, hj1, hj, hall4⟩
         show Holds _ _ _ _ _ [(8, (.int .i64 (j : Int))), (3, v)] _ _
         refine seq (seq (region (oM hH33 rfl rfl (oM hH33 rfl rfl ?_))))
         refine ops_y hH33 rfl rfl (yv_len T.sl22 rfl (h0.now hH33 (n := 1) rfl).is) ?_
         refine ops_y hH33 rfl rfl (yv_lss rfl rfl) ?_
         refine ops_nil (thn_n ?_)
         by_cases hc34 : (j : Int) < (l.length : Int)
         ·skip
          refine cond_t rfl (dT hc34) ?_
          refine skip (thn_n (seq (block (seq ?_))))
          refine region_draw (fun w' => Heap [bx b1 24 [v], base w] w') T.mixed (fun w35 hr36 => ?_)
          have hH37 := hH33.redrawn hr36
          refine any_takes [0, 1, 2, 3, 4, 5, 6, 7, 8] (by kernel_rfl) hH37 _ _ _ (by kernel_rfl) ?_
          refine qM rfl rfl rfl (qM rfl rfl rfl ?_)
          refine qs_y rfl rfl (yv_sub rfl rfl (by omega)) ?_
          refine qs_y rfl rfl (yv_index T.sl22 rfl rfl (h0.now hH37 (n := 1) rfl).is (by omega)) ?_
          refine qs_y rfl rfl (yv_loadA (cs := [(.int .i64 ((nth l ((j : Int) - 1)).n)), (.int .i64 ((nth l ((j : Int) - 1)).d)), (.int .i64 ((nth l ((j : Int) - 1)).f)), (.int .i64 ((nth l ((j : Int) - 1)).t)), (.int .i64 ((nth l ((j : Int) - 1)).a))]) T.agg38 rfl rfl (fun _ hw => Rd.atA (h0.now hw (n := 1) rfl) (i := (j : Int) - 1) (by omega))) ?_
          refine qM rfl rfl rfl (qM rfl rfl rfl ?_)
          refine qs_y rfl rfl (yv_index T.sl22 rfl rfl (h0.now hH37 (n := 1) rfl).is (by omega)) ?_
          refine qs_y rfl rfl (yv_loadA (cs := [(.int .i64 ((nth l (j : Int)).n)), (.int .i64 ((nth l (j : Int)).d)), (.int .i64 ((nth l (j : Int)).f)), (.int .i64 ((nth l (j : Int)).t)), (.int .i64 ((nth l (j : Int)).a))]) T.agg38 rfl rfl (fun _ hw => Rd.atA (h0.now hw (n := 1) rfl) (i := (j : Int)) (by omega))) ?_
          refine qs_nil ?_
          refine any_all [9] (by kernel_rfl) rfl ?_
          refine ⟨⟨_, rfl, ?_⟩, trivial⟩
          ·skip
           refine op_fnV rfl rfl rfl hH37 (c67 ) (fun w38 hH39 => ?_)
           refine ops_nil ?_
           refine ⟨hH39, ?_⟩
           refine any_takes [10] (by kernel_rfl) hH39 _ _ _ (by kernel_rfl) ?_
           refine qs_y rfl rfl (yv_not rfl) ?_
           refine qs_nil ?_
           refine any_done (by kernel_rfl) ?_
           refine thn_n ?_
           by_cases hc40 : B.bef (nth l ((j : Int) - 1)) (nth l (j : Int))
           ·skip
            refine cond_f rfl (not_decide_n hc40) ?_
            refine skip (blk_n (thn_n (region (oM hH39 rfl rfl ?_))))
            refine ops_y hH39 rfl rfl (yv_add rfl rfl (by omega)) ?_
            refine oA hH39 rfl rfl (ops_nil ?_)
            refine lp_n (j + 1) (uC rfl (uC rfl (Sub.nil _))) ?_ ?_
            ·exact ⟨hH39, by omega, by omega, B.all_snoc hall4 (fun _ => ‹_›)⟩
            ·first | (dsimp only; omega) | (show _ < _; omega)
           ·skip
            have hno : ¬ B.Ord l := fun h => absurd (h j (by omega) hj1) ‹_›
            refine cond_t rfl (not_decide_t hc40) ?_
            refine seq (region (oA hH39 rfl rfl (ops_nil (thn_n (ret (blk_r (thn_r (lp_r (blk_r ?_)))))))))
            refine thn_r ?_
            have hH41 := (hH39.sub (sC sR))
            refine fin hH41 (fun w' hf => (res1 rfl (show RV _ _ _ (.tmp 2) _ from rfl))) (fun w' hf => ?_)
            first | exact congrArg (Value.int .i64) (B.ck1 (by omega)).symm | exact congrArg (Value.int .i64) (B.ck2 (by omega) hnr).symm | exact congrArg (Value.int .i64) (B.ck3 (by omega) hin hns).symm | exact congrArg (Value.int .i64) (B.ck4 (by omega) hin hself hnd).symm | exact congrArg (Value.int .i64) (B.ck5 (by omega) hin hself hdup hno).symm | exact congrArg (Value.int .i64) (B.ck6 (by omega) hin hself hdup hord).symm
         ·skip
          have hord : B.Ord l := fun i hi => hall4 i (by omega)
          refine cond_f rfl (dF hc34) ?_
          refine exit (thn_x (lp_x (blk_here (thn_n (seq (region (oA hH33 rfl rfl (ops_nil (thn_n ?_)))))))))
          refine ret ?_
          have hH42 := (hH33.sub (sC sR))
          refine fin hH42 (fun w' hf => (res1 rfl (show RV _ _ _ (.tmp 2) _ from rfl))) (fun w' hf => ?_)
          first | exact congrArg (Value.int .i64) (B.ck1 (by omega)).symm | exact congrArg (Value.int .i64) (B.ck2 (by omega) hnr).symm | exact congrArg (Value.int .i64) (B.ck3 (by omega) hin hns).symm | exact congrArg (Value.int .i64) (B.ck4 (by omega) hin hself hnd).symm | exact congrArg (Value.int .i64) (B.ck5 (by omega) hin hself hdup hno).symm | exact congrArg (Value.int .i64) (B.ck6 (by omega) hin hself hdup hord).symm
end Go.Fip
namespace Go.Fip
open Go.Proofs Go.RowKit
theorem inside_iff {l : List Int} {lo hi : Int} : (∀ i, i < l.length → (fun x : Int => decide (x < lo ∨ hi < x)) (nth l (i : Int)) = false) ↔ ∀ x ∈ l, lo ≤ x ∧ x ≤ hi := by
 constructor
 ·intro h x hx
  obtain ⟨i, hi', rfl⟩ := List.getElem_of_mem hx
  have := h i hi'
  rw [nth_nat hi'] at this
  simp at this
  omega
 ·intro h i hi'
  have := h (nth l (i : Int)) (by rw [nth_nat hi']; exact List.getElem_mem hi')
  simp
  omega
theorem c102 {n : Int} {lo hi : Int} {b1 b2 : Nat} {w : World} (k1 : Bx b1 2 [.int .i64 lo] w) (k2 : Bx b2 2 [.int .i64 hi] w)  :
  Fn Tryz.prog 102 [(.int .i64 n), (.pointer (some ⟨b1, 0, none⟩)), (.pointer (some ⟨b2, 0, none⟩))].toArray w (fun u _ => u = .bool (decide (n < lo ∨ hi < n))) := by
 refine fn_of' (args := [(.int .i64 n), (.pointer (some ⟨b1, 0, none⟩)), (.pointer (some ⟨b2, 0, none⟩))]) Tryz.func102 rfl (ent Tryz.func102 (by kernel_rfl) rfl) rfl rfl (fun hH => ?_)
 refine seq (region (oA hH rfl rfl (ops_nil (thn_n (seq (region (oM hH rfl rfl ?_)))))))
 refine ops_y hH rfl rfl (yv_load T.one2 rfl (fun _ hw => bx_cell (k1.now hw (n := 0) rfl) rfl)) ?_
 refine ops_y hH rfl rfl (yv_lss rfl rfl) ?_
 refine oM hH rfl rfl ?_
 by_cases hc1 : n < lo
 ·skip
  refine guard_no rfl rfl (dT hc1) rfl ?_
  refine guard_no rfl rfl (dT hc1) rfl ?_
  refine guard_no rfl rfl (dT hc1) rfl ?_
  refine ops_y hH rfl rfl (yv_pick_t rfl (dT hc1) rfl) ?_
  refine oA hH rfl rfl (ops_nil (thn_n (ret ?_)))
  refine fin hH (fun w' hf => (res1 rfl (show RV _ _ _ (.tmp 4) _ from rfl))) (fun w' hf => ?_)
  first | (show Value.bool _ = Value.bool _; congr 1; rw [Bool.eq_iff_iff]; simp; done) | (show Value.bool _ = Value.bool _; congr 1; rw [Bool.eq_iff_iff]; simp; omega)
 ·skip
  refine guard_yes rfl rfl (dF hc1) ?_
  refine oM hH rfl rfl ?_
  refine guard_yes rfl rfl (dF hc1) ?_
  refine ops_y hH rfl rfl (yv_load T.one2 rfl (fun _ hw => bx_cell (k2.now hw (n := 0) rfl) rfl)) ?_
  refine guard_yes rfl rfl (dF hc1) ?_
  refine ops_y hH rfl rfl (yv_gtr rfl rfl) ?_
  refine ops_y hH rfl rfl (yv_pick_f rfl (dF hc1) rfl) ?_
  refine oA hH rfl rfl (ops_nil (thn_n (ret ?_)))
  refine fin hH (fun w' hf => (res1 rfl (show RV _ _ _ (.tmp 4) _ from rfl))) (fun w' hf => ?_)
  first | (show Value.bool _ = Value.bool _; congr 1; rw [Bool.eq_iff_iff]; simp; done) | (show Value.bool _ = Value.bool _; congr 1; rw [Bool.eq_iff_iff]; simp; omega)
theorem c130 {v : Value} {l : List Int} {lo hi : Int} {b1 b2 : Nat} {w : World} (h0 : Rd encI 1 v l w) (k1 : Bx b1 2 [.int .i64 lo] w) (k2 : Bx b2 2 [.int .i64 hi] w) (hn : l.length ≤ 1000000)  :
  Fn Tryz.prog 130 [v, (.func (.func 102) #[] #[(.pointer (some ⟨b1, 0, none⟩)), (.pointer (some ⟨b2, 0, none⟩))])].toArray w (fun u _ => u = .int .i64 (idx (fun x : Int => decide (x < lo ∨ hi < x)) l)) := by
 refine fn_of' (args := [v, (.func (.func 102) #[] #[(.pointer (some ⟨b1, 0, none⟩)), (.pointer (some ⟨b2, 0, none⟩))])]) Tryz.func130 rfl (ent Tryz.func130 (by kernel_rfl) rfl) rfl rfl (fun hH => ?_)
 refine seq (region (oA hH rfl rfl (ops_nil (thn_n (seq (seq (region (oM hH rfl rfl ?_))))))))
 refine ops_y hH rfl rfl (yv_len T.sl131 rfl (h0.now hH (n := 0) rfl).is) ?_
 refine oM hH rfl rfl (ops_nil (thn_n (block ?_)))
 refine loop (S := Nat) (fun k => [(8, (.int .i64 (k : Int))), (0, v), (1, (.func (.func 102) #[] #[(.pointer (some ⟨b1, 0, none⟩)), (.pointer (some ⟨b2, 0, none⟩))])), (7, (.int .i64 (l.length : Int)))]) (fun k w1 => Heap [base w] w1 ∧ k ≤ l.length ∧ ∀ i, i < k → (fun x : Int => decide (x < lo ∨ hi < x)) (nth l (i : Int)) = false) (fun k => l.length - k) (0) (uC rfl (uC rfl (uC rfl (uC rfl (Sub.nil _))))) ?_ ?_
 ·exact ⟨hH, by omega, B.all_zero⟩
 ·rintro k w1 ⟨hH2, hk, hall⟩
  show Holds _ _ _ _ _ [(8, (.int .i64 (k : Int))), (0, v), (1, (.func (.func 102) #[] #[(.pointer (some ⟨b1, 0, none⟩)), (.pointer (some ⟨b2, 0, none⟩))])), (7, (.int .i64 (l.length : Int)))] _ _
  refine seq (region ?_)
  refine ops_y hH2 rfl rfl (yv_lss rfl rfl) ?_
  refine ops_nil (thn_n (seq ?_))
  by_cases hc3 : (k : Int) < (l.length : Int)
  ·skip
   refine cond_t rfl (dT hc3) ?_
   refine skip (thn_n (seq (block (seq (region (oM hH2 rfl rfl (oA hH2 rfl rfl (ops_nil (thn_n ?_)))))))))
   refine seq (region (oM hH2 rfl rfl (oM hH2 rfl rfl (oM hH2 rfl rfl ?_))))
   refine ops_y hH2 rfl rfl (yv_index T.sl131 rfl rfl (h0.now hH2 (n := 0) rfl).is (by omega)) ?_
   refine ops_y hH2 rfl rfl (yv_load T.one2 rfl (fun _ hw => Rd.at (h0.now hw (n := 0) rfl) (i := (k : Int)) (by omega) (j := 0) rfl)) ?_
   refine op_fnV rfl rfl rfl hH2 (c102 (k1.now hH2 (n := 0) rfl) (k2.now hH2 (n := 0) rfl)) (fun w4 hH5 => ?_)
   refine ops_nil (thn_n ?_)
   by_cases hc6 : nth l (k : Int) < lo ∨ hi < nth l (k : Int)
   ·skip
    have hp : (fun x : Int => decide (x < lo ∨ hi < x)) (nth l (k : Int)) = true := (dT hc6)
    refine cond_t rfl (dT hc6) ?_
    refine seq (region (oM hH5 rfl rfl (oA hH5 rfl rfl (ops_nil (thn_n (ret (blk_r (thn_r (lp_r ?_)))))))))
    refine blk_r (thn_r ?_)
    refine fin hH5 (fun w' hf => (res1 rfl (show RV _ _ _ (.tmp 4) _ from rfl))) (fun w' hf => ?_)
    first | exact congrArg (Value.int .i64) (idx_hit (k := k) (by omega) hall hp).symm | exact congrArg (Value.int .i64) (idx_miss (fun i hi => hall i (by omega))).symm
   ·skip
    have hp : (fun x : Int => decide (x < lo ∨ hi < x)) (nth l (k : Int)) = false := (dF hc6)
    refine cond_f rfl (dF hc6) ?_
    refine skip (blk_n (thn_n (region ?_)))
    refine ops_y hH5 rfl rfl (yv_add rfl rfl (by omega)) ?_
    refine oM hH5 rfl rfl (ops_nil ?_)
    refine lp_n (k + 1) (uC rfl (uC rfl (uC rfl (uC rfl (Sub.nil _))))) ?_ ?_
    ·exact ⟨hH5, by omega, B.all_snoc hall hp⟩
    ·first | (dsimp only; omega) | (show _ < _; omega)
  ·skip
   refine cond_f rfl (dF hc3) ?_
   refine exit (thn_x (lp_x (blk_here (thn_n (seq (region (oA hH2 rfl rfl (ops_nil (thn_n ?_)))))))))
   refine ret ?_
   refine fin hH2 (fun w' hf => (res1 rfl (show RV _ _ _ (.tmp 4) _ from rfl))) (fun w' hf => ?_)
   first | exact congrArg (Value.int .i64) (idx_hit (k := k) (by omega) hall hp).symm | exact congrArg (Value.int .i64) (idx_miss (fun i hi => hall i (by omega))).symm
theorem c101 {v : Value} {l : List Int} {lo hi : Int} {b1 b2 : Nat} {w : World} (h0 : Rd encI 1 v l w) (k1 : Bx b1 2 [.int .i64 lo] w) (k2 : Bx b2 2 [.int .i64 hi] w) (hn : l.length ≤ 1000000)  :
  Fn Tryz.prog 101 [v, (.func (.func 102) #[] #[(.pointer (some ⟨b1, 0, none⟩)), (.pointer (some ⟨b2, 0, none⟩))])].toArray w (fun u _ => u = .bool (has (fun x : Int => decide (x < lo ∨ hi < x)) l)) := by
 refine fn_of' (args := [v, (.func (.func 102) #[] #[(.pointer (some ⟨b1, 0, none⟩)), (.pointer (some ⟨b2, 0, none⟩))])]) Tryz.func101 rfl (ent Tryz.func101 (by kernel_rfl) rfl) rfl rfl (fun hH => ?_)
 refine seq (region (oA hH rfl rfl (ops_nil (thn_n (seq (region (oM hH rfl rfl (oM hH rfl rfl ?_))))))))
 refine op_fnV rfl rfl rfl hH (c130 (h0.now hH (n := 0) rfl) (k1.now hH (n := 0) rfl) (k2.now hH (n := 0) rfl) (by omega)) (fun w1 hH2 => ?_)
 refine ops_y hH2 rfl rfl (yv_geq rfl rfl) ?_
 refine oA hH2 rfl rfl (ops_nil (thn_n (ret ?_)))
 refine fin hH2 (fun w' hf => (res1 rfl (show RV _ _ _ (.tmp 4) _ from rfl))) (fun w' hf => ?_)
 rfl
theorem c57 {v : Value} {l : List Int} {lo hi : Int} {w : World} (h0 : Rd encI 1 v l w) (hn : l.length ≤ 1000000)  :
  Fn Tryz.prog 57 [(.int .i64 lo), (.int .i64 hi), v].toArray w (fun u _ => u = .bool (decide (∀ x ∈ l, lo ≤ x ∧ x ≤ hi))) := by
 refine fn_of' (args := [(.int .i64 lo), (.int .i64 hi), v]) Tryz.func57 rfl (ent Tryz.func57 (by kernel_rfl) rfl) rfl rfl (fun hH => ?_)
 refine seq (region ?_)
 refine op_box (us := [(.int .i64 lo)]) rfl rfl rfl hH (fun b1 w2 hH3 => ?_)
 refine op_box (us := [(.int .i64 hi)]) rfl rfl rfl hH3 (fun b4 w5 hH6 => ?_)
 refine oA hH6 rfl rfl (ops_nil (thn_n (seq (region (oM hH6 rfl rfl ?_)))))
 refine ops_y hH6 rfl rfl (yv_func rfl rfl) ?_
 refine op_fnV rfl rfl rfl hH6 (c101 (h0.now hH6 (n := 2) rfl) (Heap.bxw hH6 (n := 1) rfl) (Heap.bxw hH6 (n := 0) rfl) hn) (fun w7 hH8 => ?_)
 refine ops_y hH8 rfl rfl (yv_not rfl) ?_
 refine oA hH8 rfl rfl (ops_nil (thn_n (ret ?_)))
 have hH9 := (hH8.sub (sC (sC sR)))
 refine fin hH9 (fun w' hf => (res1 rfl (show RV _ _ _ (.tmp 6) _ from rfl))) (fun w' hf => ?_)
 refine congrArg Value.bool ?_; rw [Bool.eq_iff_iff, Bool.not_eq_true', has_not, decide_eq_true_eq]; exact inside_iff
theorem c57_1 {v : Value} {a lo hi : Int} {w : World} (h0 : Rd encI 1 v [a] w) : Fn Tryz.prog 57 [.int .i64 lo, .int .i64 hi, v].toArray w (fun u _ => u = .bool (decide (lo ≤ a ∧ a ≤ hi))) := by
 have h := c57 (lo := lo) (hi := hi) h0 (by simp)
 rwa [show decide (∀ x ∈ [a], lo ≤ x ∧ x ≤ hi) = decide (lo ≤ a ∧ a ≤ hi) from decide_eq_decide.2 (by simp)] at h
theorem c57_2 {v : Value} {a b lo hi : Int} {w : World} (h0 : Rd encI 1 v [a, b] w) : Fn Tryz.prog 57 [.int .i64 lo, .int .i64 hi, v].toArray w (fun u _ => u = .bool (decide ((lo ≤ a ∧ a ≤ hi) ∧ lo ≤ b ∧ b ≤ hi))) := by
 have h := c57 (lo := lo) (hi := hi) h0 (by simp)
 rwa [show decide (∀ x ∈ [a, b], lo ≤ x ∧ x ≤ hi) = decide ((lo ≤ a ∧ a ≤ hi) ∧ lo ≤ b ∧ b ≤ hi) from decide_eq_decide.2 (by simp)] at h
theorem c61 {e : En} {w : World}  :
  Fn Tryz.prog 61 [(.agg #[(.int .i64 e.n), (.int .i64 e.d), (.int .i64 e.f), (.int .i64 e.t), (.int .i64 e.a)])].toArray w (fun u _ => u = .bool (decide (¬ B.isEn e))) := by
 refine fn_of' (args := [(.agg #[(.int .i64 e.n), (.int .i64 e.d), (.int .i64 e.f), (.int .i64 e.t), (.int .i64 e.a)])]) Tryz.func61 rfl (ent Tryz.func61 (by kernel_rfl) rfl) rfl rfl (fun hH => ?_)
 refine seq (region ?_)
 refine op_box (us := [(.int .i64 e.n), (.int .i64 e.d), (.int .i64 e.f), (.int .i64 e.t), (.int .i64 e.a)]) rfl rfl rfl hH (fun b1 w2 hH3 => ?_)
 refine oA hH3 rfl rfl (ops_nil (thn_n (seq (region ?_))))
 refine ops_y hH3 rfl rfl (yv_field T.f38_0 rfl) ?_
 refine ops_y hH3 rfl rfl (yv_load T.one2 rfl (fun _ hw => Heap.cellw hw (n := 0) rfl rfl)) ?_
 refine op_lit (us := [(0, (.int .i64 e.n))]) T.el131_encI [e.n] rfl (by decide) rfl (fun a ha => by simp [ha.ev (show ev _ (.tmp 4) = some _ from rfl)]) (fun w => by kernel_rfl) hH3 (fun u4 lo6 hi7 w5 hH8 => ?_)
 refine op_fnV rfl rfl rfl hH8 (c57_1 (Heap.rdw T.el131_encI hH8 (n := 0) rfl)) (fun w9 hH10 => ?_)
 refine ops_y hH10 rfl rfl (yv_not rfl) ?_
 refine oM hH10 rfl rfl ?_
 by_cases hc11 : 1 ≤ e.n ∧ e.n ≤ 1099511627776
 ·skip
  refine guard_yes rfl rfl (not_decide_n hc11) ?_
  refine ops_y hH10 rfl rfl (yv_field T.f38_1 rfl) ?_
  refine guard_yes rfl rfl (not_decide_n hc11) ?_
  refine ops_y hH10 rfl rfl (yv_load T.one2 rfl (fun _ hw => Heap.cellw hw (n := 1) rfl rfl)) ?_
  refine guard_yes rfl rfl (not_decide_n hc11) ?_
  refine op_lit (us := [(0, (.int .i64 e.d))]) T.el131_encI [e.d] rfl (by decide) rfl (fun a ha => by simp [ha.ev (show ev _ (.tmp 10) = some _ from rfl)]) (fun w => by kernel_rfl) hH10 (fun u12 lo14 hi15 w13 hH16 => ?_)
  refine guard_yes rfl rfl (not_decide_n hc11) ?_
  refine op_fnV rfl rfl rfl hH16 (c57_1 (Heap.rdw T.el131_encI hH16 (n := 0) rfl)) (fun w17 hH18 => ?_)
  refine guard_yes rfl rfl (not_decide_n hc11) ?_
  refine ops_y hH18 rfl rfl (yv_not rfl) ?_
  refine ops_y hH18 rfl rfl (yv_pick_f rfl (not_decide_n hc11) rfl) ?_
  refine oM hH18 rfl rfl ?_
  by_cases hc19 : 0 ≤ e.d ∧ e.d ≤ 36500
  ·skip
   refine guard_yes rfl rfl (not_decide_n hc19) ?_
   refine ops_y hH18 rfl rfl (yv_field T.f38_2 rfl) ?_
   refine guard_yes rfl rfl (not_decide_n hc19) ?_
   refine ops_y hH18 rfl rfl (yv_load T.one2 rfl (fun _ hw => Heap.cellw hw (n := 2) rfl rfl)) ?_
   refine guard_yes rfl rfl (not_decide_n hc19) ?_
   refine ops_y hH18 rfl rfl (yv_field T.f38_3 rfl) ?_
   refine guard_yes rfl rfl (not_decide_n hc19) ?_
   refine ops_y hH18 rfl rfl (yv_load T.one2 rfl (fun _ hw => Heap.cellw hw (n := 2) rfl rfl)) ?_
   refine guard_yes rfl rfl (not_decide_n hc19) ?_
   refine op_lit (us := [(0, (.int .i64 e.f)), (1, (.int .i64 e.t))]) T.el131_encI [e.f, e.t] rfl (by decide) rfl (fun a ha => by simp [ha.ev (show ev _ (.tmp 17) = some _ from rfl), ha.ev (show ev _ (.tmp 19) = some _ from rfl)]) (fun w => by kernel_rfl) hH18 (fun u20 lo22 hi23 w21 hH24 => ?_)
   refine guard_yes rfl rfl (not_decide_n hc19) ?_
   refine op_fnV rfl rfl rfl hH24 (c57_2 (Heap.rdw T.el131_encI hH24 (n := 0) rfl)) (fun w25 hH26 => ?_)
   refine guard_yes rfl rfl (not_decide_n hc19) ?_
   refine ops_y hH26 rfl rfl (yv_not rfl) ?_
   refine ops_y hH26 rfl rfl (yv_pick_f rfl (not_decide_n hc19) rfl) ?_
   refine oM hH26 rfl rfl ?_
   by_cases hc27 : (0 ≤ e.f ∧ e.f ≤ 9) ∧ 0 ≤ e.t ∧ e.t ≤ 9
   ·skip
    refine guard_yes rfl rfl (not_decide_n hc27) ?_
    refine ops_y hH26 rfl rfl (yv_field T.f38_4 rfl) ?_
    refine guard_yes rfl rfl (not_decide_n hc27) ?_
    refine ops_y hH26 rfl rfl (yv_load T.one2 rfl (fun _ hw => Heap.cellw hw (n := 3) rfl rfl)) ?_
    refine guard_yes rfl rfl (not_decide_n hc27) ?_
    refine op_lit (us := [(0, (.int .i64 e.a))]) T.el131_encI [e.a] rfl (by decide) rfl (fun a ha => by simp [ha.ev (show ev _ (.tmp 26) = some _ from rfl)]) (fun w => by kernel_rfl) hH26 (fun u28 lo30 hi31 w29 hH32 => ?_)
    refine guard_yes rfl rfl (not_decide_n hc27) ?_
    refine op_fnV rfl rfl rfl hH32 (c57_1 (Heap.rdw T.el131_encI hH32 (n := 0) rfl)) (fun w33 hH34 => ?_)
    refine guard_yes rfl rfl (not_decide_n hc27) ?_
    refine ops_y hH34 rfl rfl (yv_not rfl) ?_
    refine ops_y hH34 rfl rfl (yv_pick_f rfl (not_decide_n hc27) rfl) ?_
    refine oA hH34 rfl rfl (ops_nil (thn_n (ret ?_)))
    have hH35 := (hH34.sub (sC (sC (sC (sC (sC sR))))))
    refine fin hH35 (fun w' hf => (res1 rfl (show RV _ _ _ (.tmp 2) _ from rfl))) (fun w' hf => ?_)
    first | exact congrArg Value.bool (dT (show ¬ B.isEn e by unfold B.isEn; omega)).symm | exact congrArg Value.bool (dF (show ¬ ¬ B.isEn e by unfold B.isEn; omega)).symm | (refine congrArg Value.bool ?_; rw [Bool.eq_iff_iff]; simp only [Bool.not_eq_true', decide_eq_true_eq, decide_eq_false_iff_not]; unfold B.isEn; omega)
   ·skip
    refine guard_no rfl rfl (not_decide_t hc27) rfl ?_
    refine guard_no rfl rfl (not_decide_t hc27) rfl ?_
    refine guard_no rfl rfl (not_decide_t hc27) rfl ?_
    refine guard_no rfl rfl (not_decide_t hc27) rfl ?_
    refine guard_no rfl rfl (not_decide_t hc27) rfl ?_
    refine ops_y hH26 rfl rfl (yv_pick_t rfl (not_decide_t hc27) rfl) ?_
    refine oA hH26 rfl rfl (ops_nil (thn_n (ret ?_)))
    have hH36 := (hH26.sub (sC (sC (sC (sC sR)))))
    refine fin hH36 (fun w' hf => (res1 rfl (show RV _ _ _ (.tmp 2) _ from rfl))) (fun w' hf => ?_)
    first | exact congrArg Value.bool (dT (show ¬ B.isEn e by unfold B.isEn; omega)).symm | exact congrArg Value.bool (dF (show ¬ ¬ B.isEn e by unfold B.isEn; omega)).symm | (refine congrArg Value.bool ?_; rw [Bool.eq_iff_iff]; simp only [Bool.not_eq_true', decide_eq_true_eq, decide_eq_false_iff_not]; unfold B.isEn; omega)
  ·skip
   refine guard_no rfl rfl (not_decide_t hc19) rfl ?_
   refine guard_no rfl rfl (not_decide_t hc19) rfl ?_
   refine guard_no rfl rfl (not_decide_t hc19) rfl ?_
   refine guard_no rfl rfl (not_decide_t hc19) rfl ?_
   refine guard_no rfl rfl (not_decide_t hc19) rfl ?_
   refine guard_no rfl rfl (not_decide_t hc19) rfl ?_
   refine guard_no rfl rfl (not_decide_t hc19) rfl ?_
   refine ops_y hH18 rfl rfl (yv_pick_t rfl (not_decide_t hc19) rfl) ?_
   refine oM hH18 rfl rfl (guard_no rfl rfl rfl rfl (guard_no rfl rfl rfl rfl (guard_no rfl rfl rfl rfl (guard_no rfl rfl rfl rfl (guard_no rfl rfl rfl rfl ?_)))))
   refine ops_y hH18 rfl rfl (yv_pick_t rfl rfl rfl) ?_
   refine oA hH18 rfl rfl (ops_nil (thn_n (ret ?_)))
   have hH37 := (hH18.sub (sC (sC (sC sR))))
   refine fin hH37 (fun w' hf => (res1 rfl (show RV _ _ _ (.tmp 2) _ from rfl))) (fun w' hf => ?_)
   first | exact congrArg Value.bool (dT (show ¬ B.isEn e by unfold B.isEn; omega)).symm | exact congrArg Value.bool (dF (show ¬ ¬ B.isEn e by unfold B.isEn; omega)).symm | (refine congrArg Value.bool ?_; rw [Bool.eq_iff_iff]; simp only [Bool.not_eq_true', decide_eq_true_eq, decide_eq_false_iff_not]; unfold B.isEn; omega)
 ·skip
  refine guard_no rfl rfl (not_decide_t hc11) rfl ?_
  refine guard_no rfl rfl (not_decide_t hc11) rfl ?_
  refine guard_no rfl rfl (not_decide_t hc11) rfl ?_
  refine guard_no rfl rfl (not_decide_t hc11) rfl ?_
  refine guard_no rfl rfl (not_decide_t hc11) rfl ?_
  refine ops_y hH10 rfl rfl (yv_pick_t rfl (not_decide_t hc11) rfl) ?_
  refine oM hH10 rfl rfl (guard_no rfl rfl rfl rfl (guard_no rfl rfl rfl rfl (guard_no rfl rfl rfl rfl (guard_no rfl rfl rfl rfl (guard_no rfl rfl rfl rfl (guard_no rfl rfl rfl rfl (guard_no rfl rfl rfl rfl ?_)))))))
  refine ops_y hH10 rfl rfl (yv_pick_t rfl rfl rfl) ?_
  refine oM hH10 rfl rfl (guard_no rfl rfl rfl rfl (guard_no rfl rfl rfl rfl (guard_no rfl rfl rfl rfl (guard_no rfl rfl rfl rfl (guard_no rfl rfl rfl rfl ?_)))))
  refine ops_y hH10 rfl rfl (yv_pick_t rfl rfl rfl) ?_
  refine oA hH10 rfl rfl (ops_nil (thn_n (ret ?_)))
  have hH38 := (hH10.sub (sC (sC sR)))
  refine fin hH38 (fun w' hf => (res1 rfl (show RV _ _ _ (.tmp 2) _ from rfl))) (fun w' hf => ?_)
  first | exact congrArg Value.bool (dT (show ¬ B.isEn e by unfold B.isEn; omega)).symm | exact congrArg Value.bool (dF (show ¬ ¬ B.isEn e by unfold B.isEn; omega)).symm | (refine congrArg Value.bool ?_; rw [Bool.eq_iff_iff]; simp only [Bool.not_eq_true', decide_eq_true_eq, decide_eq_false_iff_not]; unfold B.isEn; omega)
theorem c62 {e : En} {w : World}  :
  Fn Tryz.prog 62 [(.agg #[(.int .i64 e.n), (.int .i64 e.d), (.int .i64 e.f), (.int .i64 e.t), (.int .i64 e.a)])].toArray w (fun u _ => u = .bool (decide (e.f = e.t))) := by
 refine fn_of' (args := [(.agg #[(.int .i64 e.n), (.int .i64 e.d), (.int .i64 e.f), (.int .i64 e.t), (.int .i64 e.a)])]) Tryz.func62 rfl (ent Tryz.func62 (by kernel_rfl) rfl) rfl rfl (fun hH => ?_)
 refine seq (region ?_)
 refine op_box (us := [(.int .i64 e.n), (.int .i64 e.d), (.int .i64 e.f), (.int .i64 e.t), (.int .i64 e.a)]) rfl rfl rfl hH (fun b1 w2 hH3 => ?_)
 refine oA hH3 rfl rfl (ops_nil (thn_n (seq (region ?_))))
 refine ops_y hH3 rfl rfl (yv_field T.f38_2 rfl) ?_
 refine ops_y hH3 rfl rfl (yv_load T.one2 rfl (fun _ hw => Heap.cellw hw (n := 0) rfl rfl)) ?_
 refine ops_y hH3 rfl rfl (yv_field T.f38_3 rfl) ?_
 refine ops_y hH3 rfl rfl (yv_load T.one2 rfl (fun _ hw => Heap.cellw hw (n := 0) rfl rfl)) ?_
 refine ops_y hH3 rfl rfl (yv_eql rfl rfl) ?_
 refine oA hH3 rfl rfl (ops_nil (thn_n (ret ?_)))
 have hH4 := (hH3.sub (sC sR))
 refine fin hH4 (fun w' hf => (res1 rfl (show RV _ _ _ (.tmp 2) _ from rfl))) (fun w' hf => ?_)
 rfl
theorem c63 {x e : En} {b1 : Nat} {w : World} (k1 : Bx b1 38 [.int .i64 e.n, .int .i64 e.d, .int .i64 e.f, .int .i64 e.t, .int .i64 e.a] w)  :
  Fn Tryz.prog 63 [(.agg #[(.int .i64 x.n), (.int .i64 x.d), (.int .i64 x.f), (.int .i64 x.t), (.int .i64 x.a)]), (.pointer (some ⟨b1, 0, none⟩))].toArray w (fun u _ => u = .bool (decide (x.n = e.n))) := by
 refine fn_of' (args := [(.agg #[(.int .i64 x.n), (.int .i64 x.d), (.int .i64 x.f), (.int .i64 x.t), (.int .i64 x.a)]), (.pointer (some ⟨b1, 0, none⟩))]) Tryz.func63 rfl (ent Tryz.func63 (by kernel_rfl) rfl) rfl rfl (fun hH => ?_)
 refine seq (region ?_)
 refine op_box (us := [(.int .i64 x.n), (.int .i64 x.d), (.int .i64 x.f), (.int .i64 x.t), (.int .i64 x.a)]) rfl rfl rfl hH (fun b1 w2 hH3 => ?_)
 refine oA hH3 rfl rfl (ops_nil (thn_n (seq (region ?_))))
 refine ops_y hH3 rfl rfl (yv_field T.f38_0 rfl) ?_
 refine ops_y hH3 rfl rfl (yv_load T.one2 rfl (fun _ hw => Heap.cellw hw (n := 0) rfl rfl)) ?_
 refine ops_y hH3 rfl rfl (yv_field T.f38_0 rfl) ?_
 refine ops_y hH3 rfl rfl (yv_load T.one2 rfl (fun _ hw => bx_cell (k1.now hw (n := 1) rfl) rfl)) ?_
 refine ops_y hH3 rfl rfl (yv_eql rfl rfl) ?_
 refine oA hH3 rfl rfl (ops_nil (thn_n (ret ?_)))
 have hH4 := (hH3.sub (sC sR))
 refine fin hH4 (fun w' hf => (res1 rfl (show RV _ _ _ (.tmp 3) _ from rfl))) (fun w' hf => ?_)
 rfl
theorem c104a {v : Value} {l : List En} {w : World} (h0 : Rd encE 5 v l w) (hn : l.length ≤ 1000000)  :
  Fn Tryz.prog 104 [v, (.func (.func 61) #[] #[])].toArray w (fun u _ => u = .int .i64 (idx (fun x : En => decide (¬ B.isEn x)) l)) := by
 refine fn_of' (args := [v, (.func (.func 61) #[] #[])]) Tryz.func104 rfl (ent Tryz.func104 (by kernel_rfl) rfl) rfl rfl (fun hH => ?_)
 refine seq (region (oA hH rfl rfl (ops_nil (thn_n (seq (seq (region (oM hH rfl rfl ?_))))))))
 refine ops_y hH rfl rfl (yv_len T.sl22 rfl (h0.now hH (n := 0) rfl).is) ?_
 refine oM hH rfl rfl (ops_nil (thn_n (block ?_)))
 refine loop (S := Nat) (fun k => [(8, (.int .i64 (k : Int))), (0, v), (1, (.func (.func 61) #[] #[])), (7, (.int .i64 (l.length : Int)))]) (fun k w1 => Heap [base w] w1 ∧ k ≤ l.length ∧ ∀ i, i < k → (fun x : En => decide (¬ B.isEn x)) (nth l (i : Int)) = false) (fun k => l.length - k) (0) (uC rfl (uC rfl (uC rfl (uC rfl (Sub.nil _))))) ?_ ?_
 ·exact ⟨hH, by omega, B.all_zero⟩
 ·rintro k w1 ⟨hH2, hk, hall⟩
  show Holds _ _ _ _ _ [(8, (.int .i64 (k : Int))), (0, v), (1, (.func (.func 61) #[] #[])), (7, (.int .i64 (l.length : Int)))] _ _
  refine seq (region ?_)
  refine ops_y hH2 rfl rfl (yv_lss rfl rfl) ?_
  refine ops_nil (thn_n (seq ?_))
  by_cases hc3 : (k : Int) < (l.length : Int)
  ·skip
   refine cond_t rfl (dT hc3) ?_
   refine skip (thn_n (seq (block (seq (region (oM hH2 rfl rfl (oA hH2 rfl rfl (ops_nil (thn_n ?_)))))))))
   refine seq (region (oM hH2 rfl rfl (oM hH2 rfl rfl (oM hH2 rfl rfl ?_))))
   refine ops_y hH2 rfl rfl (yv_index T.sl22 rfl rfl (h0.now hH2 (n := 0) rfl).is (by omega)) ?_
   refine ops_y hH2 rfl rfl (yv_loadA (cs := [(.int .i64 ((nth l (k : Int)).n)), (.int .i64 ((nth l (k : Int)).d)), (.int .i64 ((nth l (k : Int)).f)), (.int .i64 ((nth l (k : Int)).t)), (.int .i64 ((nth l (k : Int)).a))]) T.agg38 rfl rfl (fun _ hw => Rd.atA (h0.now hw (n := 0) rfl) (i := (k : Int)) (by omega))) ?_
   refine op_fnV rfl rfl rfl hH2 (c61 ) (fun w4 hH5 => ?_)
   refine ops_nil (thn_n ?_)
   by_cases hc6 : ¬ B.isEn (nth l (k : Int))
   ·skip
    have hp : (fun x : En => decide (¬ B.isEn x)) (nth l (k : Int)) = true := (dT hc6)
    refine cond_t rfl (dT hc6) ?_
    refine seq (region (oM hH5 rfl rfl (oA hH5 rfl rfl (ops_nil (thn_n (ret (blk_r (thn_r (lp_r ?_)))))))))
    refine blk_r (thn_r ?_)
    refine fin hH5 (fun w' hf => (res1 rfl (show RV _ _ _ (.tmp 4) _ from rfl))) (fun w' hf => ?_)
    first | exact congrArg (Value.int .i64) (idx_hit (k := k) (by omega) hall hp).symm | exact congrArg (Value.int .i64) (idx_miss (fun i hi => hall i (by omega))).symm
   ·skip
    have hp : (fun x : En => decide (¬ B.isEn x)) (nth l (k : Int)) = false := (dF hc6)
    refine cond_f rfl (dF hc6) ?_
    refine skip (blk_n (thn_n (region ?_)))
    refine ops_y hH5 rfl rfl (yv_add rfl rfl (by omega)) ?_
    refine oM hH5 rfl rfl (ops_nil ?_)
    refine lp_n (k + 1) (uC rfl (uC rfl (uC rfl (uC rfl (Sub.nil _))))) ?_ ?_
    ·exact ⟨hH5, by omega, B.all_snoc hall hp⟩
    ·first | (dsimp only; omega) | (show _ < _; omega)
  ·skip
   refine cond_f rfl (dF hc3) ?_
   refine exit (thn_x (lp_x (blk_here (thn_n (seq (region (oA hH2 rfl rfl (ops_nil (thn_n ?_)))))))))
   refine ret ?_
   refine fin hH2 (fun w' hf => (res1 rfl (show RV _ _ _ (.tmp 4) _ from rfl))) (fun w' hf => ?_)
   first | exact congrArg (Value.int .i64) (idx_hit (k := k) (by omega) hall hp).symm | exact congrArg (Value.int .i64) (idx_miss (fun i hi => hall i (by omega))).symm
theorem c60a {v : Value} {l : List En} {w : World} (h0 : Rd encE 5 v l w) (hn : l.length ≤ 1000000)  :
  Fn Tryz.prog 60 [v, (.func (.func 61) #[] #[])].toArray w (fun u _ => u = .bool (has (fun x : En => decide (¬ B.isEn x)) l)) := by
 refine fn_of' (args := [v, (.func (.func 61) #[] #[])]) Tryz.func60 rfl (ent Tryz.func60 (by kernel_rfl) rfl) rfl rfl (fun hH => ?_)
 refine seq (region (oA hH rfl rfl (ops_nil (thn_n (seq (region (oM hH rfl rfl (oM hH rfl rfl ?_))))))))
 refine op_fnV rfl rfl rfl hH (c104a (h0.now hH (n := 0) rfl) (by first | omega | assumption)) (fun w1 hH2 => ?_)
 refine ops_y hH2 rfl rfl (yv_geq rfl rfl) ?_
 refine oA hH2 rfl rfl (ops_nil (thn_n (ret ?_)))
 refine fin hH2 (fun w' hf => (res1 rfl (show RV _ _ _ (.tmp 4) _ from rfl))) (fun w' hf => ?_)
 rfl
theorem c104b {v : Value} {l : List En} {w : World} (h0 : Rd encE 5 v l w) (hn : l.length ≤ 1000000)  :
  Fn Tryz.prog 104 [v, (.func (.func 62) #[] #[])].toArray w (fun u _ => u = .int .i64 (idx (fun x : En => decide (x.f = x.t)) l)) := by
 refine fn_of' (args := [v, (.func (.func 62) #[] #[])]) Tryz.func104 rfl (ent Tryz.func104 (by kernel_rfl) rfl) rfl rfl (fun hH => ?_)
 refine seq (region (oA hH rfl rfl (ops_nil (thn_n (seq (seq (region (oM hH rfl rfl ?_))))))))
 refine ops_y hH rfl rfl (yv_len T.sl22 rfl (h0.now hH (n := 0) rfl).is) ?_
 refine oM hH rfl rfl (ops_nil (thn_n (block ?_)))
 refine loop (S := Nat) (fun k => [(8, (.int .i64 (k : Int))), (0, v), (1, (.func (.func 62) #[] #[])), (7, (.int .i64 (l.length : Int)))]) (fun k w1 => Heap [base w] w1 ∧ k ≤ l.length ∧ ∀ i, i < k → (fun x : En => decide (x.f = x.t)) (nth l (i : Int)) = false) (fun k => l.length - k) (0) (uC rfl (uC rfl (uC rfl (uC rfl (Sub.nil _))))) ?_ ?_
 ·exact ⟨hH, by omega, B.all_zero⟩
 ·rintro k w1 ⟨hH2, hk, hall⟩
  show Holds _ _ _ _ _ [(8, (.int .i64 (k : Int))), (0, v), (1, (.func (.func 62) #[] #[])), (7, (.int .i64 (l.length : Int)))] _ _
  refine seq (region ?_)
  refine ops_y hH2 rfl rfl (yv_lss rfl rfl) ?_
  refine ops_nil (thn_n (seq ?_))
  by_cases hc3 : (k : Int) < (l.length : Int)
  ·skip
   refine cond_t rfl (dT hc3) ?_
   refine skip (thn_n (seq (block (seq (region (oM hH2 rfl rfl (oA hH2 rfl rfl (ops_nil (thn_n ?_)))))))))
   refine seq (region (oM hH2 rfl rfl (oM hH2 rfl rfl (oM hH2 rfl rfl ?_))))
   refine ops_y hH2 rfl rfl (yv_index T.sl22 rfl rfl (h0.now hH2 (n := 0) rfl).is (by omega)) ?_
   refine ops_y hH2 rfl rfl (yv_loadA (cs := [(.int .i64 ((nth l (k : Int)).n)), (.int .i64 ((nth l (k : Int)).d)), (.int .i64 ((nth l (k : Int)).f)), (.int .i64 ((nth l (k : Int)).t)), (.int .i64 ((nth l (k : Int)).a))]) T.agg38 rfl rfl (fun _ hw => Rd.atA (h0.now hw (n := 0) rfl) (i := (k : Int)) (by omega))) ?_
   refine op_fnV rfl rfl rfl hH2 (c62 ) (fun w4 hH5 => ?_)
   refine ops_nil (thn_n ?_)
   by_cases hc6 : (nth l (k : Int)).f = (nth l (k : Int)).t
   ·skip
    have hp : (fun x : En => decide (x.f = x.t)) (nth l (k : Int)) = true := (dT hc6)
    refine cond_t rfl (dT hc6) ?_
    refine seq (region (oM hH5 rfl rfl (oA hH5 rfl rfl (ops_nil (thn_n (ret (blk_r (thn_r (lp_r ?_)))))))))
    refine blk_r (thn_r ?_)
    refine fin hH5 (fun w' hf => (res1 rfl (show RV _ _ _ (.tmp 4) _ from rfl))) (fun w' hf => ?_)
    first | exact congrArg (Value.int .i64) (idx_hit (k := k) (by omega) hall hp).symm | exact congrArg (Value.int .i64) (idx_miss (fun i hi => hall i (by omega))).symm
   ·skip
    have hp : (fun x : En => decide (x.f = x.t)) (nth l (k : Int)) = false := (dF hc6)
    refine cond_f rfl (dF hc6) ?_
    refine skip (blk_n (thn_n (region ?_)))
    refine ops_y hH5 rfl rfl (yv_add rfl rfl (by omega)) ?_
    refine oM hH5 rfl rfl (ops_nil ?_)
    refine lp_n (k + 1) (uC rfl (uC rfl (uC rfl (uC rfl (Sub.nil _))))) ?_ ?_
    ·exact ⟨hH5, by omega, B.all_snoc hall hp⟩
    ·first | (dsimp only; omega) | (show _ < _; omega)
  ·skip
   refine cond_f rfl (dF hc3) ?_
   refine exit (thn_x (lp_x (blk_here (thn_n (seq (region (oA hH2 rfl rfl (ops_nil (thn_n ?_)))))))))
   refine ret ?_
   refine fin hH2 (fun w' hf => (res1 rfl (show RV _ _ _ (.tmp 4) _ from rfl))) (fun w' hf => ?_)
   first | exact congrArg (Value.int .i64) (idx_hit (k := k) (by omega) hall hp).symm | exact congrArg (Value.int .i64) (idx_miss (fun i hi => hall i (by omega))).symm
theorem c60b {v : Value} {l : List En} {w : World} (h0 : Rd encE 5 v l w) (hn : l.length ≤ 1000000)  :
  Fn Tryz.prog 60 [v, (.func (.func 62) #[] #[])].toArray w (fun u _ => u = .bool (has (fun x : En => decide (x.f = x.t)) l)) := by
 refine fn_of' (args := [v, (.func (.func 62) #[] #[])]) Tryz.func60 rfl (ent Tryz.func60 (by kernel_rfl) rfl) rfl rfl (fun hH => ?_)
 refine seq (region (oA hH rfl rfl (ops_nil (thn_n (seq (region (oM hH rfl rfl (oM hH rfl rfl ?_))))))))
 refine op_fnV rfl rfl rfl hH (c104b (h0.now hH (n := 0) rfl) (by first | omega | assumption)) (fun w1 hH2 => ?_)
 refine ops_y hH2 rfl rfl (yv_geq rfl rfl) ?_
 refine oA hH2 rfl rfl (ops_nil (thn_n (ret ?_)))
 refine fin hH2 (fun w' hf => (res1 rfl (show RV _ _ _ (.tmp 4) _ from rfl))) (fun w' hf => ?_)
 rfl
theorem c104c {v : Value} {l : List En} {e : En} {b1 : Nat} {w : World} (h0 : Rd encE 5 v l w) (k1 : Bx b1 38 [.int .i64 e.n, .int .i64 e.d, .int .i64 e.f, .int .i64 e.t, .int .i64 e.a] w) (hn : l.length ≤ 1000000)  :
  Fn Tryz.prog 104 [v, (.func (.func 63) #[] #[(.pointer (some ⟨b1, 0, none⟩))])].toArray w (fun u _ => u = .int .i64 (idx (fun x : En => decide (x.n = e.n)) l)) := by
 refine fn_of' (args := [v, (.func (.func 63) #[] #[(.pointer (some ⟨b1, 0, none⟩))])]) Tryz.func104 rfl (ent Tryz.func104 (by kernel_rfl) rfl) rfl rfl (fun hH => ?_)
 refine seq (region (oA hH rfl rfl (ops_nil (thn_n (seq (seq (region (oM hH rfl rfl ?_))))))))
 refine ops_y hH rfl rfl (yv_len T.sl22 rfl (h0.now hH (n := 0) rfl).is) ?_
 refine oM hH rfl rfl (ops_nil (thn_n (block ?_)))
 refine loop (S := Nat) (fun k => [(8, (.int .i64 (k : Int))), (0, v), (1, (.func (.func 63) #[] #[(.pointer (some ⟨b1, 0, none⟩))])), (7, (.int .i64 (l.length : Int)))]) (fun k w1 => Heap [base w] w1 ∧ k ≤ l.length ∧ ∀ i, i < k → (fun x : En => decide (x.n = e.n)) (nth l (i : Int)) = false) (fun k => l.length - k) (0) (uC rfl (uC rfl (uC rfl (uC rfl (Sub.nil _))))) ?_ ?_
 ·exact ⟨hH, by omega, B.all_zero⟩
 ·rintro k w1 ⟨hH2, hk, hall⟩
  show Holds _ _ _ _ _ [(8, (.int .i64 (k : Int))), (0, v), (1, (.func (.func 63) #[] #[(.pointer (some ⟨b1, 0, none⟩))])), (7, (.int .i64 (l.length : Int)))] _ _
  refine seq (region ?_)
  refine ops_y hH2 rfl rfl (yv_lss rfl rfl) ?_
  refine ops_nil (thn_n (seq ?_))
  by_cases hc3 : (k : Int) < (l.length : Int)
  ·skip
   refine cond_t rfl (dT hc3) ?_
   refine skip (thn_n (seq (block (seq (region (oM hH2 rfl rfl (oA hH2 rfl rfl (ops_nil (thn_n ?_)))))))))
   refine seq (region (oM hH2 rfl rfl (oM hH2 rfl rfl (oM hH2 rfl rfl ?_))))
   refine ops_y hH2 rfl rfl (yv_index T.sl22 rfl rfl (h0.now hH2 (n := 0) rfl).is (by omega)) ?_
   refine ops_y hH2 rfl rfl (yv_loadA (cs := [(.int .i64 ((nth l (k : Int)).n)), (.int .i64 ((nth l (k : Int)).d)), (.int .i64 ((nth l (k : Int)).f)), (.int .i64 ((nth l (k : Int)).t)), (.int .i64 ((nth l (k : Int)).a))]) T.agg38 rfl rfl (fun _ hw => Rd.atA (h0.now hw (n := 0) rfl) (i := (k : Int)) (by omega))) ?_
   refine op_fnV rfl rfl rfl hH2 (c63 (k1.now hH2 (n := 0) rfl)) (fun w4 hH5 => ?_)
   refine ops_nil (thn_n ?_)
   by_cases hc6 : (nth l (k : Int)).n = e.n
   ·skip
    have hp : (fun x : En => decide (x.n = e.n)) (nth l (k : Int)) = true := (dT hc6)
    refine cond_t rfl (dT hc6) ?_
    refine seq (region (oM hH5 rfl rfl (oA hH5 rfl rfl (ops_nil (thn_n (ret (blk_r (thn_r (lp_r ?_)))))))))
    refine blk_r (thn_r ?_)
    refine fin hH5 (fun w' hf => (res1 rfl (show RV _ _ _ (.tmp 4) _ from rfl))) (fun w' hf => ?_)
    first | exact congrArg (Value.int .i64) (idx_hit (k := k) (by omega) hall hp).symm | exact congrArg (Value.int .i64) (idx_miss (fun i hi => hall i (by omega))).symm
   ·skip
    have hp : (fun x : En => decide (x.n = e.n)) (nth l (k : Int)) = false := (dF hc6)
    refine cond_f rfl (dF hc6) ?_
    refine skip (blk_n (thn_n (region ?_)))
    refine ops_y hH5 rfl rfl (yv_add rfl rfl (by omega)) ?_
    refine oM hH5 rfl rfl (ops_nil ?_)
    refine lp_n (k + 1) (uC rfl (uC rfl (uC rfl (uC rfl (Sub.nil _))))) ?_ ?_
    ·exact ⟨hH5, by omega, B.all_snoc hall hp⟩
    ·first | (dsimp only; omega) | (show _ < _; omega)
  ·skip
   refine cond_f rfl (dF hc3) ?_
   refine exit (thn_x (lp_x (blk_here (thn_n (seq (region (oA hH2 rfl rfl (ops_nil (thn_n ?_)))))))))
   refine ret ?_
   refine fin hH2 (fun w' hf => (res1 rfl (show RV _ _ _ (.tmp 4) _ from rfl))) (fun w' hf => ?_)
   first | exact congrArg (Value.int .i64) (idx_hit (k := k) (by omega) hall hp).symm | exact congrArg (Value.int .i64) (idx_miss (fun i hi => hall i (by omega))).symm
theorem c60c {v : Value} {l : List En} {e : En} {b1 : Nat} {w : World} (h0 : Rd encE 5 v l w) (k1 : Bx b1 38 [.int .i64 e.n, .int .i64 e.d, .int .i64 e.f, .int .i64 e.t, .int .i64 e.a] w) (hn : l.length ≤ 1000000)  :
  Fn Tryz.prog 60 [v, (.func (.func 63) #[] #[(.pointer (some ⟨b1, 0, none⟩))])].toArray w (fun u _ => u = .bool (has (fun x : En => decide (x.n = e.n)) l)) := by
 refine fn_of' (args := [v, (.func (.func 63) #[] #[(.pointer (some ⟨b1, 0, none⟩))])]) Tryz.func60 rfl (ent Tryz.func60 (by kernel_rfl) rfl) rfl rfl (fun hH => ?_)
 refine seq (region (oA hH rfl rfl (ops_nil (thn_n (seq (region (oM hH rfl rfl (oM hH rfl rfl ?_))))))))
 refine op_fnV rfl rfl rfl hH (c104c (h0.now hH (n := 0) rfl) (e := e) (k1.now hH (n := 0) rfl) (by first | omega | assumption)) (fun w1 hH2 => ?_)
 refine ops_y hH2 rfl rfl (yv_geq rfl rfl) ?_
 refine oA hH2 rfl rfl (ops_nil (thn_n (ret ?_)))
 refine fin hH2 (fun w' hf => (res1 rfl (show RV _ _ _ (.tmp 4) _ from rfl))) (fun w' hf => ?_)
 rfl
theorem c132 {a : Int} {w : World}  :
  Fn Tryz.prog 132 [(.int .i64 a)].toArray w (fun u _ => u = .bool false) := by
 refine fn_of' (args := [(.int .i64 a)]) Tryz.func132 rfl (ent Tryz.func132 (by kernel_rfl) rfl) rfl rfl (fun hH => ?_)
 refine seq (region (oA hH rfl rfl (ops_nil (thn_n (seq (region (oM hH rfl rfl (oM hH rfl rfl ?_))))))))
 refine ops_y hH rfl rfl (yv_neq rfl rfl) ?_
 refine oA hH rfl rfl (ops_nil (thn_n (ret ?_)))
 refine fin hH (fun w' hf => (res1 rfl (show RV _ _ _ (.tmp 2) _ from rfl))) (fun w' hf => ?_)
 simp
def B.cmpI (a b : Int) : Int := if a < b then -1 else if b < a then 1 else 0
def B.cmpE (a b : En) : Int := if B.cmpI a.d b.d = 0 then B.cmpI a.n b.n else B.cmpI a.d b.d
theorem B.cmpE_neg {a b : En} : B.cmpE a b < 0 ↔ B.bef a b := by
 unfold B.cmpE B.cmpI B.bef
 repeat' split
 all_goals omega
theorem c106 {a b : Int} {w : World}  :
  Fn Tryz.prog 106 [(.int .i64 a), (.int .i64 b)].toArray w (fun u _ => u = .int .i64 (B.cmpI a b)) := by
 refine fn_of' (args := [(.int .i64 a), (.int .i64 b)]) Tryz.func106 rfl (ent Tryz.func106 (by kernel_rfl) rfl) rfl rfl (fun hH => ?_)
 refine seq (region (oA hH rfl rfl (ops_nil (thn_n (seq (region (oM hH rfl rfl ?_)))))))
 refine op_fnV rfl rfl rfl hH (c132 ) (fun w1 hH2 => ?_)
 refine oA hH2 rfl rfl (ops_nil (thn_n (seq (region (oM hH2 rfl rfl ?_)))))
 refine op_fnV rfl rfl rfl hH2 (c132 ) (fun w3 hH4 => ?_)
 refine oA hH4 rfl rfl (ops_nil (thn_n (seq (seq (region (oM hH4 rfl rfl (ops_nil (thn_n ?_))))))))
 refine cond_f rfl rfl ?_
 refine skip (thn_n (seq (seq (region (oM hH4 rfl rfl (ops_nil (thn_n ?_)))))))
 refine cond_f rfl rfl ?_
 refine skip (thn_n (seq (seq (region (oM hH4 rfl rfl (oM hH4 rfl rfl ?_))))))
 refine ops_y hH4 rfl rfl (yv_lss rfl rfl) ?_
 refine ops_nil (thn_n ?_)
 by_cases hc5 : a < b
 ·skip
  refine cond_t rfl (dT hc5) ?_
  refine seq (region (oA hH4 rfl rfl (ops_nil (thn_n (ret (thn_r ?_))))))
  refine fin hH4 (fun w' hf => (res1 rfl (show RV _ _ _ (.tmp 4) _ from rfl))) (fun w' hf => ?_)
  first | exact congrArg (Value.int .i64) (show _ = B.cmpI a b by unfold B.cmpI; (repeat split) <;> omega)
 ·skip
  refine cond_f rfl (dF hc5) ?_
  refine skip (thn_n (seq (seq (region (oM hH4 rfl rfl (oM hH4 rfl rfl ?_))))))
  refine ops_y hH4 rfl rfl (yv_gtr rfl rfl) ?_
  refine ops_nil (thn_n ?_)
  by_cases hc6 : b < a
  ·skip
   refine cond_t rfl (dT hc6) ?_
   refine seq (region (oA hH4 rfl rfl (ops_nil (thn_n (ret (thn_r ?_))))))
   refine fin hH4 (fun w' hf => (res1 rfl (show RV _ _ _ (.tmp 4) _ from rfl))) (fun w' hf => ?_)
   first | exact congrArg (Value.int .i64) (show _ = B.cmpI a b by unfold B.cmpI; (repeat split) <;> omega)
  ·skip
   refine cond_f rfl (dF hc6) ?_
   refine skip (thn_n (seq (region (oA hH4 rfl rfl (ops_nil (thn_n (ret ?_)))))))
   refine fin hH4 (fun w' hf => (res1 rfl (show RV _ _ _ (.tmp 4) _ from rfl))) (fun w' hf => ?_)
   first | exact congrArg (Value.int .i64) (show _ = B.cmpI a b by unfold B.cmpI; (repeat split) <;> omega)
theorem B.two_at {a b : Int} {k : Nat} : (k = 0 → nth [a, b] (k : Int) = a) ∧ (k = 1 → nth [a, b] (k : Int) = b) := ⟨fun h => by subst h; rfl, fun h => by subst h; rfl⟩
theorem c105 {v : Value} {a b : Int} {w : World} (h0 : Rd encI 1 v [a, b] w)  :
  Fn Tryz.prog 105 [v].toArray w (fun u _ => u = .int .i64 (if a = 0 then b else a)) := by
 refine fn_of' (args := [v]) Tryz.func105 rfl (ent Tryz.func105 (by kernel_rfl) rfl) rfl rfl (fun hH => ?_)
 refine seq (region (oA hH rfl rfl (ops_nil (thn_n (seq (region (oA hH rfl rfl (ops_nil (thn_n ?_)))))))))
 refine seq (seq (region (oM hH rfl rfl ?_)))
 refine ops_y hH rfl rfl (yv_len T.sl168 rfl (h0.now hH (n := 0) rfl).is) ?_
 refine oM hH rfl rfl (ops_nil (thn_n (block ?_)))
 refine loop (S := Nat) (fun k => [(8, (.int .i64 (k : Int))), (3, (.int .i64 0)), (6, v), (7, (.int .i64 ([a, b].length : Int)))]) (fun k w1 => Heap [base w] w1 ∧ k ≤ 2 ∧ (1 ≤ k → a = 0) ∧ (2 ≤ k → b = 0)) (fun k => 2 - k) (0) (uC rfl (uC rfl (uC rfl (uC rfl (Sub.nil _))))) ?_ ?_
 ·exact ⟨hH, by omega, by omega, by omega⟩
 ·rintro k w1 ⟨hH2, hk, h1, h2⟩
  show Holds _ _ _ _ _ [(8, (.int .i64 (k : Int))), (3, (.int .i64 0)), (6, v), (7, (.int .i64 ([a, b].length : Int)))] _ _
  refine seq (region ?_)
  refine ops_y hH2 rfl rfl (yv_lss rfl rfl) ?_
  refine ops_nil (thn_n (seq ?_))
  by_cases hc3 : (k : Int) < ([a, b].length : Int)
  ·skip
   refine cond_t rfl (dT hc3) ?_
   refine skip (thn_n (seq (block (seq (region ?_)))))
   refine ops_y hH2 rfl rfl (yv_index T.sl168 rfl rfl (h0.now hH2 (n := 0) rfl).is (by simp only [List.length_cons, List.length_nil] at *; omega)) ?_
   refine ops_y hH2 rfl rfl (yv_load T.one3 rfl (fun _ hw => Rd.at (h0.now hw (n := 0) rfl) (i := (k : Int)) (by simp only [List.length_cons, List.length_nil] at *; omega) (j := 0) rfl)) ?_
   refine oA hH2 rfl rfl (ops_nil (thn_n (seq (region (oM hH2 rfl rfl (oM hH2 rfl rfl ?_))))))
   refine ops_y hH2 rfl rfl (yv_neq rfl rfl) ?_
   refine ops_nil (thn_n ?_)
   by_cases hc4 : (nth [a, b] (k : Int)) = 0
   ·skip
    refine cond_f rfl (not_decide_n hc4) ?_
    refine skip (blk_n (thn_n (region ?_)))
    refine ops_y hH2 rfl rfl (yv_add rfl rfl (by omega)) ?_
    refine oM hH2 rfl rfl (ops_nil ?_)
    refine lp_n (k + 1) (uC rfl (uC rfl (uC rfl (uC rfl (Sub.nil _))))) ?_ ?_
    ·exact ⟨hH2, by simp only [List.length_cons, List.length_nil] at *; omega, (fun h => by have h7 := B.two_at (a := a) (b := b) (k := k); omega), (fun h => by have h7 := B.two_at (a := a) (b := b) (k := k); omega)⟩
    ·(simp only [List.length_cons, List.length_nil] at *; omega)
   ·skip
    refine cond_t rfl (not_decide_t hc4) ?_
    refine seq (region (oM hH2 rfl rfl (oA hH2 rfl rfl (ops_nil (thn_n (ret (blk_r (thn_r (lp_r ?_)))))))))
    refine blk_r (thn_r ?_)
    refine fin hH2 (fun w' hf => (res1 rfl (show RV _ _ _ (.tmp 2) _ from rfl))) (fun w' hf => ?_)
    have h7 := B.two_at (a := a) (b := b) (k := k); first | exact congrArg (Value.int .i64) (by simp only [List.length_cons, List.length_nil] at *; split <;> omega)
  ·skip
   refine cond_f rfl (dF hc3) ?_
   refine exit (thn_x (lp_x (blk_here (thn_n (seq (region (oM hH2 rfl rfl (oA hH2 rfl rfl (ops_nil ?_)))))))))
   refine thn_n (ret ?_)
   refine fin hH2 (fun w' hf => (res1 rfl (show RV _ _ _ (.tmp 2) _ from rfl))) (fun w' hf => ?_)
   have h7 := B.two_at (a := a) (b := b) (k := k); first | exact congrArg (Value.int .i64) (by simp only [List.length_cons, List.length_nil] at *; split <;> omega)
theorem c65 {a b : En} {w : World}  :
  Fn Tryz.prog 65 [(.agg #[(.int .i64 a.n), (.int .i64 a.d), (.int .i64 a.f), (.int .i64 a.t), (.int .i64 a.a)]), (.agg #[(.int .i64 b.n), (.int .i64 b.d), (.int .i64 b.f), (.int .i64 b.t), (.int .i64 b.a)])].toArray w (fun u _ => u = .int .i64 (B.cmpE a b)) := by
 refine fn_of' (args := [(.agg #[(.int .i64 a.n), (.int .i64 a.d), (.int .i64 a.f), (.int .i64 a.t), (.int .i64 a.a)]), (.agg #[(.int .i64 b.n), (.int .i64 b.d), (.int .i64 b.f), (.int .i64 b.t), (.int .i64 b.a)])]) Tryz.func65 rfl (ent Tryz.func65 (by kernel_rfl) rfl) rfl rfl (fun hH => ?_)
 refine seq (region ?_)
 refine op_box (us := [(.int .i64 a.n), (.int .i64 a.d), (.int .i64 a.f), (.int .i64 a.t), (.int .i64 a.a)]) rfl rfl rfl hH (fun b1 w2 hH3 => ?_)
 refine op_box (us := [(.int .i64 b.n), (.int .i64 b.d), (.int .i64 b.f), (.int .i64 b.t), (.int .i64 b.a)]) rfl rfl rfl hH3 (fun b4 w5 hH6 => ?_)
 refine oA hH6 rfl rfl (ops_nil (thn_n (seq ?_)))
 refine region_draw (fun w' => Heap [bx b4 38 [(.int .i64 b.n), (.int .i64 b.d), (.int .i64 b.f), (.int .i64 b.t), (.int .i64 b.a)], bx b1 38 [(.int .i64 a.n), (.int .i64 a.d), (.int .i64 a.f), (.int .i64 a.t), (.int .i64 a.a)], base w] w') T.mixed (fun w7 hr8 => ?_)
 have hH9 := hH6.redrawn hr8
 refine any_takes [0, 1, 2, 3, 5, 6, 7, 8] (by kernel_rfl) hH9 _ _ _ (by kernel_rfl) ?_
 refine qs_y rfl rfl (yv_field T.f38_1 rfl) ?_
 refine qs_y rfl rfl (yv_load T.one2 rfl (fun _ hw => Heap.cellw hw (n := 1) rfl rfl)) ?_
 refine qs_y rfl rfl (yv_field T.f38_1 rfl) ?_
 refine qs_y rfl rfl (yv_load T.one2 rfl (fun _ hw => Heap.cellw hw (n := 0) rfl rfl)) ?_
 refine qs_y rfl rfl (yv_field T.f38_0 rfl) ?_
 refine qs_y rfl rfl (yv_load T.one2 rfl (fun _ hw => Heap.cellw hw (n := 1) rfl rfl)) ?_
 refine qs_y rfl rfl (yv_field T.f38_0 rfl) ?_
 refine qs_y rfl rfl (yv_load T.one2 rfl (fun _ hw => Heap.cellw hw (n := 0) rfl rfl)) ?_
 refine qs_nil ?_
 refine any_all [4] (by kernel_rfl) rfl ?_
 refine ⟨⟨_, rfl, ?_⟩, trivial⟩
 ·skip
  refine op_fnV rfl rfl rfl hH9 (c106 ) (fun w10 hH11 => ?_)
  refine ops_nil ?_
  refine ⟨hH11, ?_⟩
  refine any_all [9] (by kernel_rfl) rfl ?_
  refine ⟨⟨_, rfl, ?_⟩, trivial⟩
  ·skip
   refine op_fnV rfl rfl rfl hH11 (c106 ) (fun w12 hH13 => ?_)
   refine ops_nil ?_
   refine ⟨hH13, ?_⟩
   refine any_all [10] (by kernel_rfl) rfl ?_
   refine ⟨⟨_, rfl, ?_⟩, trivial⟩
   ·skip
    refine op_lit (us := [(0, (.int .i64 (B.cmpI a.d b.d))), (1, (.int .i64 (B.cmpI a.n b.n)))]) T.el168_encI [(B.cmpI a.d b.d), (B.cmpI a.n b.n)] rfl (by decide) rfl (fun a ha => by simp [ha.ev (show ev _ (.tmp 9) = some _ from rfl), ha.ev (show ev _ (.tmp 14) = some _ from rfl)]) (fun w => by kernel_rfl) hH13 (fun u14 lo16 hi17 w15 hH18 => ?_)
    refine ops_nil ?_
    refine ⟨(hH18.sub (sC sR)), ?_⟩
    refine any_all [11] (by kernel_rfl) rfl ?_
    refine ⟨⟨_, rfl, ?_⟩, trivial⟩
    ·skip
     refine op_fnV rfl rfl rfl hH18 (c105 (Heap.rdw T.el168_encI hH18 (n := 0) rfl)) (fun w19 hH20 => ?_)
     refine ops_nil ?_
     refine ⟨(hH20.sub (sC sR)), ?_⟩
     refine any_takes [12] (by kernel_rfl) (hH20.sub (sC sR)) _ _ _ (by kernel_rfl) ?_
     refine qs_y rfl rfl (yv_assign rfl) (qs_nil ?_)
     refine any_done (by kernel_rfl) ?_
     refine thn_n (ret ?_)
     have hH21 := (hH20.sub (sC (sC (sC sR))))
     refine fin hH21 (fun w' hf => (res1 rfl (show RV _ _ _ (.tmp 4) _ from rfl))) (fun w' hf => ?_)
     rfl
end Go.Fip
namespace Go.Fip
open Go.Proofs Go.RowKit
theorem B.has_stray {l : List En} : has (fun x : En => decide (¬ B.isEn x)) l = true ↔ ¬ B.InR l := by
 rw [has_iff]
 unfold B.InR
 constructor
 ·rintro ⟨i, hi, hp⟩ h
  exact (of_decide_eq_true hp) (h i hi)
 ·intro h
  have : ∃ i, ¬ (i < l.length → B.isEn (nth l (i : Int))) := Classical.not_forall.1 h
  obtain ⟨i, hi⟩ := this
  obtain ⟨h1, h2⟩ := Classical.not_imp.1 hi
  exact ⟨i, h1, dT h2⟩
theorem B.has_self {l : List En} : has (fun x : En => decide (x.f = x.t)) l = true ↔ ¬ B.NoSelf l := by
 rw [has_iff]
 unfold B.NoSelf
 constructor
 ·rintro ⟨i, hi, hp⟩ h
  exact h i hi (of_decide_eq_true hp)
 ·intro h
  obtain ⟨i, hi⟩ := Classical.not_forall.1 h
  obtain ⟨h1, h2⟩ := Classical.not_imp.1 hi
  exact ⟨i, h1, dT (Classical.not_not.1 h2)⟩
theorem B.has_dup {l : List En} {k : Nat} {n : Int} (hk : k ≤ l.length) : has (fun x : En => decide (x.n = n)) (l.take k) = true ↔ ∃ i : Nat, i < k ∧ (nth l (i : Int)).n = n := by
 rw [has_iff, List.length_take, Nat.min_eq_left hk]
 constructor
 ·rintro ⟨i, hi, hp⟩
  have h := of_decide_eq_true hp
  rw [nth_nat (by rw [List.length_take]; omega), List.getElem_take] at h
  exact ⟨i, hi, by rw [nth_nat (by omega)]; exact h⟩
 ·rintro ⟨i, hi, hp⟩
  refine ⟨i, hi, dT ?_⟩
  rw [nth_nat (by rw [List.length_take]; omega), List.getElem_take]
  rwa [nth_nat (by omega)] at hp
theorem c64 {v : Value} {l : List En} {w : World} (h0 : Rd encE 5 v l w) (hn : l.length ≤ 1000000)  :
  Fn Tryz.prog 64 [v, (.func (.func 65) #[] #[])].toArray w (fun u _ => u = .bool (decide (∀ i : Nat, i < l.length → 1 ≤ i → ¬ B.bef (nth l (i : Int)) (nth l ((i : Int) - 1))))) := by
 refine fn_of' (args := [v, (.func (.func 65) #[] #[])]) Tryz.func64 rfl (ent Tryz.func64 (by kernel_rfl) rfl) rfl rfl (fun hH => ?_)
 refine seq (region (oA hH rfl rfl (ops_nil (thn_n (seq (seq (region (oM hH rfl rfl ?_))))))))
 refine ops_y hH rfl rfl (yv_len T.sl22 rfl (h0.now hH (n := 0) rfl).is) ?_
 refine ops_y hH rfl rfl (yv_sub rfl rfl (by omega)) ?_
 refine oA hH rfl rfl (ops_nil (thn_n (block ?_)))
 refine loop (S := Int) (fun k => [(5, (.int .i64 k)), (0, v), (1, (.func (.func 65) #[] #[]))]) (fun k w1 => Heap [base w] w1 ∧ -1 ≤ k ∧ k < l.length ∧ ∀ i : Nat, k < (i : Int) → i < l.length → 1 ≤ i → ¬ B.bef (nth l (i : Int)) (nth l ((i : Int) - 1))) (fun k => (k + 1).toNat) ((l.length : Int) - 1) (uC rfl (uC rfl (uC rfl (Sub.nil _)))) ?_ ?_
 ·exact ⟨hH, by omega, by omega, fun i h1 h2 => by omega⟩
 ·rintro k w1 ⟨hH2, hk0, hk, hall⟩
  show Holds _ _ _ _ _ [(5, (.int .i64 k)), (0, v), (1, (.func (.func 65) #[] #[]))] _ _
  refine seq (seq (region (oM hH2 rfl rfl ?_)))
  refine ops_y hH2 rfl rfl (yv_gtr rfl rfl) ?_
  refine ops_nil (thn_n ?_)
  by_cases hc3 : 0 < k
  ·skip
   refine cond_t rfl (dT hc3) ?_
   refine skip (thn_n (seq (block (seq ?_))))
   refine region_draw (fun w' => Heap [base w] w') T.mixed (fun w4 hr5 => ?_)
   have hH6 := hH2.redrawn hr5
   refine any_takes [0, 1, 2, 3, 4, 5, 6, 7, 8, 9] (by kernel_rfl) hH6 _ _ _ (by kernel_rfl) ?_
   refine qM rfl rfl rfl (qM rfl rfl rfl (qM rfl rfl rfl ?_))
   refine qs_y rfl rfl (yv_index T.sl22 rfl rfl (h0.now hH6 (n := 0) rfl).is (by omega)) ?_
   refine qs_y rfl rfl (yv_loadA (cs := [(.int .i64 ((nth l k).n)), (.int .i64 ((nth l k).d)), (.int .i64 ((nth l k).f)), (.int .i64 ((nth l k).t)), (.int .i64 ((nth l k).a))]) T.agg38 rfl rfl (fun _ hw => Rd.atA (h0.now hw (n := 0) rfl) (i := k) (by omega))) ?_
   refine qM rfl rfl rfl (qM rfl rfl rfl ?_)
   refine qs_y rfl rfl (yv_sub rfl rfl (by omega)) ?_
   refine qs_y rfl rfl (yv_index T.sl22 rfl rfl (h0.now hH6 (n := 0) rfl).is (by omega)) ?_
   refine qs_y rfl rfl (yv_loadA (cs := [(.int .i64 ((nth l (k - 1)).n)), (.int .i64 ((nth l (k - 1)).d)), (.int .i64 ((nth l (k - 1)).f)), (.int .i64 ((nth l (k - 1)).t)), (.int .i64 ((nth l (k - 1)).a))]) T.agg38 rfl rfl (fun _ hw => Rd.atA (h0.now hw (n := 0) rfl) (i := k - 1) (by omega))) ?_
   refine qs_nil ?_
   refine any_all [10] (by kernel_rfl) rfl ?_
   refine ⟨⟨_, rfl, ?_⟩, trivial⟩
   ·skip
    refine op_fnV rfl rfl rfl hH6 (c65 ) (fun w7 hH8 => ?_)
    refine ops_nil ?_
    refine ⟨hH8, ?_⟩
    refine any_takes [11] (by kernel_rfl) hH8 _ _ _ (by kernel_rfl) ?_
    refine qs_y rfl rfl (yv_lss rfl rfl) ?_
    refine qs_nil ?_
    refine any_done (by kernel_rfl) ?_
    refine thn_n ?_
    by_cases hc9 : (B.cmpE (nth l k) (nth l (k - 1))) < 0
    ·skip
     have hbad : B.bef (nth l k) (nth l (k - 1)) := B.cmpE_neg.1 ‹_›
     refine cond_t rfl (dT hc9) ?_
     refine seq (region (oA hH8 rfl rfl (ops_nil (thn_n (ret (blk_r (thn_r (lp_r (blk_r ?_)))))))))
     refine thn_r ?_
     refine fin hH8 (fun w' hf => (res1 rfl (show RV _ _ _ (.tmp 4) _ from rfl))) (fun w' hf => ?_)
     first | exact congrArg Value.bool (dF (fun h => h k.toNat (by omega) (by omega) (by rw [Int.toNat_of_nonneg (by omega)]; exact hbad))).symm | exact congrArg Value.bool (dT (fun i h1 h2 => hall i (by omega) h1 h2)).symm
    ·skip
     refine cond_f rfl (dF hc9) ?_
     refine skip (blk_n (thn_n (region (oM hH8 rfl rfl ?_))))
     refine ops_y hH8 rfl rfl (yv_sub rfl rfl (by omega)) ?_
     refine oA hH8 rfl rfl (ops_nil ?_)
     refine lp_n (k - 1) (uC rfl (uC rfl (uC rfl (Sub.nil _)))) ?_ ?_
     ·exact ⟨hH8, by omega, by omega, fun i h1 h2 h3 => if e : k < (i : Int) then hall i e h2 h3 else by rw [show (i : Int) = k by omega]; exact fun c => absurd (B.cmpE_neg.2 c) ‹_›⟩
     ·first | (dsimp only; omega) | (show _ < _; omega)
  ·skip
   refine cond_f rfl (dF hc3) ?_
   refine exit (thn_x (lp_x (blk_here (thn_n (seq (region (oA hH2 rfl rfl (ops_nil (thn_n ?_)))))))))
   refine ret ?_
   refine fin hH2 (fun w' hf => (res1 rfl (show RV _ _ _ (.tmp 4) _ from rfl))) (fun w' hf => ?_)
   first | exact congrArg Value.bool (dF (fun h => h k.toNat (by omega) (by omega) (by rw [Int.toNat_of_nonneg (by omega)]; exact hbad))).symm | exact congrArg Value.bool (dT (fun i h1 h2 => hall i (by omega) h1 h2)).symm
theorem c21 {v : Value} {l : List En} {w : World} (h0 : Rd encE 5 v l w) (hn : l.length ≤ 1000000)  :
  Fn Tryz.prog 21 [(.agg #[v])].toArray w (fun u _ => u = .int .i64 (B.ck l)) := by
 refine fn_of' (args := [(.agg #[v])]) Tryz.func21 rfl (ent Tryz.func21 (by kernel_rfl) rfl) rfl rfl (fun hH => ?_)
 refine seq (region ?_)
 refine op_box (us := [v]) rfl rfl rfl hH (fun b1 w2 hH3 => ?_)
 refine oA hH3 rfl rfl (ops_nil (thn_n (seq (region ?_))))
 refine ops_y hH3 rfl rfl (yv_field T.f24_0 rfl) ?_
 refine ops_y hH3 rfl rfl (yv_load T.one22 rfl (fun _ hw => Heap.cellw hw (n := 0) rfl rfl)) ?_
 refine oA hH3 rfl rfl (ops_nil (thn_n (seq (block (seq (region (oM hH3 rfl rfl ?_)))))))
 refine ops_y hH3 rfl rfl (yv_len T.sl22 rfl (h0.now hH3 (n := 1) rfl).is) ?_
 refine ops_y hH3 rfl rfl (yv_gtr rfl rfl) ?_
 refine oA hH3 rfl rfl (ops_nil (thn_n ?_))
 by_cases hc4 : 24 < (l.length : Int)
 ·skip
  refine cond_t rfl (dT hc4) ?_
  refine seq (region (oA hH3 rfl rfl (ops_nil (thn_n (ret (blk_r (thn_r ?_)))))))
  have hH5 := (hH3.sub (sC sR))
  refine fin hH5 (fun w' hf => (res1 rfl (show RV _ _ _ (.tmp 2) _ from rfl))) (fun w' hf => ?_)
  first | exact congrArg (Value.int .i64) (B.ck1 (by omega)).symm | exact congrArg (Value.int .i64) (B.ck2 (by omega) hnr).symm | exact congrArg (Value.int .i64) (B.ck3 (by omega) hin hns).symm | exact congrArg (Value.int .i64) (B.ck4 (by omega) hin hself hnd).symm | exact congrArg (Value.int .i64) (B.ck5 (by omega) hin hself hdup hno).symm | exact congrArg (Value.int .i64) (B.ck6 (by omega) hin hself hdup hord).symm
 ·skip
  refine cond_f rfl (dF hc4) ?_
  refine seq (region (oM hH3 rfl rfl ?_))
  refine op_fnV rfl rfl rfl hH3 (c60a (h0.now hH3 (n := 1) rfl) (by first | omega | (rw [List.length_take]; omega))) (fun w6 hH7 => ?_)
  refine oA hH7 rfl rfl (ops_nil (thn_n ?_))
  by_cases hc8 : has (fun x : En => decide (¬ B.isEn x)) l = true
  ·skip
   have hnr : ¬ B.InR l := B.has_stray.1 hc8
   refine cond_t rfl hc8 ?_
   refine seq (region (oA hH7 rfl rfl (ops_nil (thn_n (ret (blk_r (thn_r ?_)))))))
   have hH9 := (hH7.sub (sC sR))
   refine fin hH9 (fun w' hf => (res1 rfl (show RV _ _ _ (.tmp 2) _ from rfl))) (fun w' hf => ?_)
   first | exact congrArg (Value.int .i64) (B.ck1 (by omega)).symm | exact congrArg (Value.int .i64) (B.ck2 (by omega) hnr).symm | exact congrArg (Value.int .i64) (B.ck3 (by omega) hin hns).symm | exact congrArg (Value.int .i64) (B.ck4 (by omega) hin hself hnd).symm | exact congrArg (Value.int .i64) (B.ck5 (by omega) hin hself hdup hno).symm | exact congrArg (Value.int .i64) (B.ck6 (by omega) hin hself hdup hord).symm
  ·skip
   have hin : B.InR l := by have h := (Bool.eq_false_iff.2 hc8); rw [Bool.eq_false_iff] at h; exact Classical.not_not.1 (fun c => h (B.has_stray.2 c))
   refine cond_f rfl (Bool.eq_false_iff.2 hc8) ?_
   refine seq (region (oM hH7 rfl rfl ?_))
   refine op_fnV rfl rfl rfl hH7 (c60b (h0.now hH7 (n := 1) rfl) (by first | omega | (rw [List.length_take]; omega))) (fun w10 hH11 => ?_)
   refine oA hH11 rfl rfl (ops_nil (thn_n ?_))
   by_cases hc12 : has (fun x : En => decide (x.f = x.t)) l = true
   ·skip
    have hns : ¬ B.NoSelf l := B.has_self.1 hc12
    refine cond_t rfl hc12 ?_
    refine seq (region (oA hH11 rfl rfl (ops_nil (thn_n (ret (blk_r (thn_r ?_)))))))
    have hH13 := (hH11.sub (sC sR))
    refine fin hH13 (fun w' hf => (res1 rfl (show RV _ _ _ (.tmp 2) _ from rfl))) (fun w' hf => ?_)
    first | exact congrArg (Value.int .i64) (B.ck1 (by omega)).symm | exact congrArg (Value.int .i64) (B.ck2 (by omega) hnr).symm | exact congrArg (Value.int .i64) (B.ck3 (by omega) hin hns).symm | exact congrArg (Value.int .i64) (B.ck4 (by omega) hin hself hnd).symm | exact congrArg (Value.int .i64) (B.ck5 (by omega) hin hself hdup hno).symm | exact congrArg (Value.int .i64) (B.ck6 (by omega) hin hself hdup hord).symm
   ·skip
    have hself : B.NoSelf l := by have h := (Bool.eq_false_iff.2 hc12); rw [Bool.eq_false_iff] at h; exact Classical.not_not.1 (fun c => h (B.has_self.2 c))
    refine cond_f rfl (Bool.eq_false_iff.2 hc12) ?_
    refine skip (blk_n (thn_n (seq (seq (region (oM hH11 rfl rfl ?_))))))
    refine ops_y hH11 rfl rfl (yv_len T.sl22 rfl (h0.now hH11 (n := 1) rfl).is) ?_
    refine oM hH11 rfl rfl (ops_nil (thn_n (block ?_)))
    refine loop (S := Nat) (fun i => [(20, (.int .i64 (i : Int))), (3, v), (18, v), (19, (.int .i64 (l.length : Int)))]) (fun i w1 => Heap [bx b1 24 [v], base w] w1 ∧ i ≤ l.length ∧ ∀ i2, i2 < i → ∀ k, k < i2 → ¬ (nth l (k : Int)).n = (nth l (i2 : Int)).n) (fun i => l.length - i) (0) (uC rfl (uC rfl (uC rfl (uC rfl (Sub.nil _))))) ?_ ?_
    ·exact ⟨hH11, by omega, B.all_zero⟩
    ·rintro i w14 ⟨hH15, hi, hall2⟩
     show Holds _ _ _ _ _ [(20, (.int .i64 (i : Int))), (3, v), (18, v), (19, (.int .i64 (l.length : Int)))] _ _
     refine seq (region ?_)
     refine ops_y hH15 rfl rfl (yv_lss rfl rfl) ?_
     refine ops_nil (thn_n (seq ?_))
     by_cases hc16 : (i : Int) < (l.length : Int)
     ·skip
      refine cond_t rfl (dT hc16) ?_
      refine skip (thn_n (seq (block (seq (region (oM hH15 rfl rfl ?_))))))
      refine ops_y hH15 rfl rfl (yv_index T.sl22 rfl rfl (h0.now hH15 (n := 1) rfl).is (by omega)) ?_
      refine ops_y hH15 rfl rfl (yv_loadA (cs := [(.int .i64 ((nth l (i : Int)).n)), (.int .i64 ((nth l (i : Int)).d)), (.int .i64 ((nth l (i : Int)).f)), (.int .i64 ((nth l (i : Int)).t)), (.int .i64 ((nth l (i : Int)).a))]) T.agg38 rfl rfl (fun _ hw => Rd.atA (h0.now hw (n := 1) rfl) (i := (i : Int)) (by omega))) ?_
      refine op_alloc (z := (.agg #[(.int .i64 0), (.int .i64 0), (.int .i64 0), (.int .i64 0), (.int .i64 0)])) (us := [(.int .i64 0), (.int .i64 0), (.int .i64 0), (.int .i64 0), (.int .i64 0)]) (fun _ => by kernel_rfl) rfl rfl hH15 (fun b17 w18 hH19 => ?_)
      refine oA hH19 rfl rfl ?_
      refine op_store (n := 0) (j := 0) (us := [(.int .i64 ((nth l (i : Int)).n)), (.int .i64 ((nth l (i : Int)).d)), (.int .i64 ((nth l (i : Int)).f)), (.int .i64 ((nth l (i : Int)).t)), (.int .i64 ((nth l (i : Int)).a))]) rfl rfl hH19 rfl T.sz38 rfl rfl rfl (by rfl) (fun w20 hH21 => ?_)
      refine ops_nil (thn_n (seq (region (oM hH21 rfl rfl (oM hH21 rfl rfl ?_)))))
      refine ops_y hH21 rfl rfl (yv_cut_hi T.sl22 rfl rfl (h0.now hH21 (n := 2) rfl).is (by omega)) ?_
      refine ops_y hH21 rfl rfl (yv_func rfl rfl) ?_
      refine op_fnV rfl rfl rfl hH21 (c60c (Rd.upto (h0.now hH21 (n := 2) rfl) (hi := (i : Int).toNat) (by omega)) (e := (nth l (i : Int))) (Heap.bxw hH21 (n := 0) rfl) (by first | omega | (rw [List.length_take]; omega))) (fun w22 hH23 => ?_)
      refine ops_nil (thn_n ?_)
      by_cases hc24 : has (fun x : En => decide (x.n = (nth l (i : Int)).n)) (l.take (i : Int).toNat) = true
      ·skip
       have hnd : ¬ B.NoDup l := fun h => by obtain ⟨k, hk, he⟩ := (B.has_dup (by omega)).1 hc24; exact h i (by omega) k hk he
       refine cond_t rfl hc24 ?_
       refine seq (region (oA hH23 rfl rfl (ops_nil (thn_n (ret (blk_r (thn_r (lp_r (blk_r ?_)))))))))
       refine thn_r ?_
       have hH25 := (hH23.sub (sC (sC sR)))
       refine fin hH25 (fun w' hf => (res1 rfl (show RV _ _ _ (.tmp 2) _ from rfl))) (fun w' hf => ?_)
       first | exact congrArg (Value.int .i64) (B.ck1 (by omega)).symm | exact congrArg (Value.int .i64) (B.ck2 (by omega) hnr).symm | exact congrArg (Value.int .i64) (B.ck3 (by omega) hin hns).symm | exact congrArg (Value.int .i64) (B.ck4 (by omega) hin hself hnd).symm | exact congrArg (Value.int .i64) (B.ck5 (by omega) hin hself hdup hno).symm | exact congrArg (Value.int .i64) (B.ck6 (by omega) hin hself hdup hord).symm
      ·skip
       have hndk : ¬ ∃ k : Nat, k < i ∧ (nth l (k : Int)).n = (nth l (i : Int)).n := fun hc => by have h := (Bool.eq_false_iff.2 hc24); rw [Bool.eq_false_iff] at h; exact h ((B.has_dup (by omega)).2 hc)
       refine cond_f rfl (Bool.eq_false_iff.2 hc24) ?_
       refine skip (blk_n (thn_n (region ?_)))
       refine ops_y hH23 rfl rfl (yv_add rfl rfl (by omega)) ?_
       refine oM hH23 rfl rfl (ops_nil ?_)
       have hH26 := (hH23.sub (sC sR))
       refine lp_n (i + 1) (uC rfl (uC rfl (uC rfl (uC rfl (Sub.nil _))))) ?_ ?_
       ·exact ⟨hH26, by omega, B.all_snoc hall2 (fun k hk hc => hndk ⟨k, hk, hc⟩)⟩
       ·first | (dsimp only; omega) | (show _ < _; omega)
     ·skip
      have hdup : B.NoDup l := fun i2 hi2 => hall2 i2 (by omega)
      refine cond_f rfl (dF hc16) ?_
      refine exit (thn_x (lp_x (blk_here (thn_n (seq (seq (region (oM hH15 rfl rfl ?_))))))))
      refine op_fnV rfl rfl rfl hH15 (c64 (h0.now hH15 (n := 1) rfl) (by omega)) (fun w27 hH28 => ?_)
      refine ops_y hH28 rfl rfl (yv_not rfl) ?_
      refine ops_nil (thn_n ?_)
      by_cases hc29 : ∀ i : Nat, i < l.length → 1 ≤ i → ¬ B.bef (nth l (i : Int)) (nth l ((i : Int) - 1))
      ·skip
       have hs6 : ∀ i : Nat, i < l.length → 1 ≤ i → ¬ B.bef (nth l (i : Int)) (nth l ((i : Int) - 1)) := by first | assumption | exact Decidable.not_not.1 ‹_›
       have hord : B.Ord l := fun i h1 h2 => B.bef_total (fun c => hdup i h1 (i - 1) (by omega) (by rw [show ((i - 1 : Nat) : Int) = (i : Int) - 1 by omega]; exact c.symm)) (hs6 i h1 h2)
       refine cond_f rfl (not_decide_n hc29) ?_
       refine skip (thn_n (seq (region (oA hH28 rfl rfl (ops_nil (thn_n (ret ?_)))))))
       have hH30 := (hH28.sub (sC sR))
       refine fin hH30 (fun w' hf => (res1 rfl (show RV _ _ _ (.tmp 2) _ from rfl))) (fun w' hf => ?_)
       first | exact congrArg (Value.int .i64) (B.ck1 (by omega)).symm | exact congrArg (Value.int .i64) (B.ck2 (by omega) hnr).symm | exact congrArg (Value.int .i64) (B.ck3 (by omega) hin hns).symm | exact congrArg (Value.int .i64) (B.ck4 (by omega) hin hself hnd).symm | exact congrArg (Value.int .i64) (B.ck5 (by omega) hin hself hdup hno).symm | exact congrArg (Value.int .i64) (B.ck6 (by omega) hin hself hdup hord).symm
      ·skip
       have hno : ¬ B.Ord l := fun h => absurd (fun (i : Nat) (h1 : i < l.length) (h2 : 1 ≤ i) => B.bef_asymm (h i h1 h2)) ‹_›
       refine cond_t rfl (not_decide_t hc29) ?_
       refine seq (region (oA hH28 rfl rfl (ops_nil (thn_n (ret (thn_r ?_))))))
       have hH31 := (hH28.sub (sC sR))
       refine fin hH31 (fun w' hf => (res1 rfl (show RV _ _ _ (.tmp 2) _ from rfl))) (fun w' hf => ?_)
       first | exact congrArg (Value.int .i64) (B.ck1 (by omega)).symm | exact congrArg (Value.int .i64) (B.ck2 (by omega) hnr).symm | exact congrArg (Value.int .i64) (B.ck3 (by omega) hin hns).symm | exact congrArg (Value.int .i64) (B.ck4 (by omega) hin hself hnd).symm | exact congrArg (Value.int .i64) (B.ck5 (by omega) hin hself hdup hno).symm | exact congrArg (Value.int .i64) (B.ck6 (by omega) hin hself hdup hord).symm
end Go.Fip
namespace Go.Fip
open Go.Proofs Go.RowKit
theorem c197 {w : World} (hG : Gl w)  :
  Fn Tryz.prog 197 [(.int .u64 16)].toArray w (fun u _ => u = .int .i64 4) := by
 refine fn_of' (args := [(.int .u64 16)]) Tryz.func197 rfl (ent Tryz.func197 (by kernel_rfl) rfl) rfl rfl (fun hH => ?_)
 refine seq (region (oA hH rfl rfl (ops_nil (thn_n (seq (seq (region (oM hH rfl rfl ?_))))))))
 refine ops_y hH rfl rfl (yv_eql rfl rfl) ?_
 refine ops_nil (thn_n ?_)
 refine cond_f rfl rfl ?_
 refine skip (thn_n (seq (region (oM hH rfl rfl (oM hH rfl rfl ?_)))))
 refine ops_y hH rfl rfl (yv_un (v := .int .u64 18446744073709551600) rfl (fun w => by kernel_rfl)) ?_
 refine ops_y hH rfl rfl (yv_bin (v := .int .u64 16) rfl rfl (fun w => by kernel_rfl)) ?_
 refine ops_y hH rfl rfl (yv_bin (v := .int .u64 4573923408821661840) rfl rfl (fun w => by kernel_rfl)) ?_
 refine ops_y hH rfl rfl (yv_bin (v := .int .u64 15) rfl rfl (fun w => by kernel_rfl)) ?_
 refine ops_y hH rfl rfl (yv_indexA T.arr238 rfl rfl (by omega)) ?_
 refine ops_y hH rfl rfl (yv_load (o := 15) T.one5 (by rfl) (fun _ hw => (hG.now hw (n := 0) rfl).tz)) ?_
 refine ops_y hH rfl rfl (yv_conv Tryz.underlying5 Tryz.underlying3 rfl (wrap_i64 (by omega))) ?_
 refine oA hH rfl rfl (ops_nil (thn_n (ret ?_)))
 refine fin hH (fun w' hf => (res1 rfl (show RV _ _ _ (.tmp 2) _ from rfl))) (fun w' hf => ?_)
 rfl
theorem c182 {w : World} (hG : Gl w)  :
  Fn Tryz.prog 182 [(.int .u64 16)].toArray w (fun u _ => u = .int .i64 4) := by
 refine fn_of' (args := [(.int .u64 16)]) Tryz.func182 rfl (ent Tryz.func182 (by kernel_rfl) rfl) rfl rfl (fun hH => ?_)
 refine seq (region (oA hH rfl rfl (ops_nil (thn_n (seq ?_)))))
 refine cond_f rfl rfl ?_
 refine skip (thn_n (seq (region (oM hH rfl rfl ?_))))
 refine op_fnV rfl rfl rfl hH (c197 (hG.now hH (n := 0) rfl)) (fun w1 hH2 => ?_)
 refine oA hH2 rfl rfl (ops_nil (thn_n (ret ?_)))
 refine fin hH2 (fun w' hf => (res1 rfl (show RV _ _ _ (.tmp 2) _ from rfl))) (fun w' hf => ?_)
 rfl
theorem c181 {w : World}  :
  Fn Tryz.prog 181 [(.int .i64 16)].toArray w (fun u _ => u = .bool true) := by
 refine fn_of' (args := [(.int .i64 16)]) Tryz.func181 rfl (ent Tryz.func181 (by kernel_rfl) rfl) rfl rfl (fun hH => ?_)
 refine seq (region (oA hH rfl rfl (ops_nil (thn_n (seq (region (oM hH rfl rfl (oM hH rfl rfl ?_))))))))
 refine ops_y hH rfl rfl (yv_bin (v := .int .i64 15) rfl rfl (fun w => by kernel_rfl)) ?_
 refine ops_y hH rfl rfl (yv_bin (v := .int .i64 0) rfl rfl (fun w => by kernel_rfl)) ?_
 refine ops_y hH rfl rfl (yv_eql rfl rfl) ?_
 refine oA hH rfl rfl (ops_nil (thn_n (ret ?_)))
 refine fin hH (fun w' hf => (res1 rfl (show RV _ _ _ (.tmp 2) _ from rfl))) (fun w' hf => ?_)
 rfl
theorem c162 {x : UInt64} {w : World} (hG : Gl w)  :
  Fn Tryz.prog 162 [(.slice none 0 0), (.int .u64 (x.toNat : Int)), (.int .i64 16), (.bool false), (.bool false)].toArray w (fun u _ => u = .tuple #[.slice none 0 0, str (B.hexM x.toNat)]) := by
 refine fn_of' (args := [(.slice none 0 0), (.int .u64 (x.toNat : Int)), (.int .i64 16), (.bool false), (.bool false)]) Tryz.func162 rfl (ent Tryz.func162 (by kernel_rfl) rfl) rfl rfl (fun hH => ?_)
 have hx := x.toNat_lt
 have hxl := B.hexM_length x.toNat
 refine seq (region (oA hH rfl rfl (oA hH rfl rfl (ops_nil (thn_n (seq (seq (region (oM hH rfl rfl ?_)))))))))
 refine ops_y hH rfl rfl (yv_lss rfl rfl) ?_
 refine oM hH rfl rfl (guard_yes rfl rfl rfl (oM hH rfl rfl (guard_yes rfl rfl rfl ?_)))
 refine ops_y hH rfl rfl (yv_eql rfl rfl) ?_
 refine ops_y hH rfl rfl (yv_pick_f rfl rfl rfl) ?_
 refine oM hH rfl rfl (guard_yes rfl rfl rfl (oM hH rfl rfl (guard_yes rfl rfl rfl ?_)))
 refine ops_y hH rfl rfl (yv_gtr rfl rfl) ?_
 refine ops_y hH rfl rfl (yv_pick_f rfl rfl rfl) ?_
 refine ops_nil (thn_n ?_)
 refine cond_f rfl rfl ?_
 refine skip (thn_n (seq (region ?_)))
 refine op_alloc (z := (.agg #[(.int .u8 0), (.int .u8 0), (.int .u8 0), (.int .u8 0), (.int .u8 0), (.int .u8 0), (.int .u8 0), (.int .u8 0), (.int .u8 0), (.int .u8 0), (.int .u8 0), (.int .u8 0), (.int .u8 0), (.int .u8 0), (.int .u8 0), (.int .u8 0), (.int .u8 0), (.int .u8 0), (.int .u8 0), (.int .u8 0), (.int .u8 0), (.int .u8 0), (.int .u8 0), (.int .u8 0), (.int .u8 0), (.int .u8 0), (.int .u8 0), (.int .u8 0), (.int .u8 0), (.int .u8 0), (.int .u8 0), (.int .u8 0), (.int .u8 0), (.int .u8 0), (.int .u8 0), (.int .u8 0), (.int .u8 0), (.int .u8 0), (.int .u8 0), (.int .u8 0), (.int .u8 0), (.int .u8 0), (.int .u8 0), (.int .u8 0), (.int .u8 0), (.int .u8 0), (.int .u8 0), (.int .u8 0), (.int .u8 0), (.int .u8 0), (.int .u8 0), (.int .u8 0), (.int .u8 0), (.int .u8 0), (.int .u8 0), (.int .u8 0), (.int .u8 0), (.int .u8 0), (.int .u8 0), (.int .u8 0), (.int .u8 0), (.int .u8 0), (.int .u8 0), (.int .u8 0), (.int .u8 0)])) (us := [(.int .u8 0), (.int .u8 0), (.int .u8 0), (.int .u8 0), (.int .u8 0), (.int .u8 0), (.int .u8 0), (.int .u8 0), (.int .u8 0), (.int .u8 0), (.int .u8 0), (.int .u8 0), (.int .u8 0), (.int .u8 0), (.int .u8 0), (.int .u8 0), (.int .u8 0), (.int .u8 0), (.int .u8 0), (.int .u8 0), (.int .u8 0), (.int .u8 0), (.int .u8 0), (.int .u8 0), (.int .u8 0), (.int .u8 0), (.int .u8 0), (.int .u8 0), (.int .u8 0), (.int .u8 0), (.int .u8 0), (.int .u8 0), (.int .u8 0), (.int .u8 0), (.int .u8 0), (.int .u8 0), (.int .u8 0), (.int .u8 0), (.int .u8 0), (.int .u8 0), (.int .u8 0), (.int .u8 0), (.int .u8 0), (.int .u8 0), (.int .u8 0), (.int .u8 0), (.int .u8 0), (.int .u8 0), (.int .u8 0), (.int .u8 0), (.int .u8 0), (.int .u8 0), (.int .u8 0), (.int .u8 0), (.int .u8 0), (.int .u8 0), (.int .u8 0), (.int .u8 0), (.int .u8 0), (.int .u8 0), (.int .u8 0), (.int .u8 0), (.int .u8 0), (.int .u8 0), (.int .u8 0)]) (fun _ => by kernel_rfl) rfl rfl hH (fun b1 w2 hH3 => ?_)
 refine ops_nil (thn_n (seq (region (oA hH3 rfl rfl (ops_nil (thn_n (seq (seq (region ?_)))))))))
 refine oM hH3 rfl rfl (ops_nil (thn_n ?_))
 refine cond_f rfl rfl ?_
 refine skip (thn_n (seq (seq (region (oM hH3 rfl rfl ?_)))))
 refine op_fnV rfl rfl rfl hH3 (c181) (fun w4 hH5 => ?_)
 refine ops_nil (thn_n ?_)
 refine cond_t rfl rfl ?_
 refine seq (region (oM hH5 rfl rfl ?_))
 refine ops_y hH5 rfl rfl (yv_conv Tryz.underlying3 Tryz.underlying151 rfl (wrap_u64 (by omega))) ?_
 refine op_fnV rfl rfl rfl hH5 (c182 (hG.now hH5 (n := 1) rfl)) (fun w6 hH7 => ?_)
 refine ops_y hH7 rfl rfl (yv_conv Tryz.underlying3 Tryz.underlying151 rfl (wrap_u64 (by omega))) ?_
 refine oA hH7 rfl rfl (ops_nil (thn_n (seq (region (oM hH7 rfl rfl ?_)))))
 refine ops_y hH7 rfl rfl (yv_conv Tryz.underlying3 Tryz.underlying32 rfl (wrap_u64 (by omega))) ?_
 refine oA hH7 rfl rfl (ops_nil (thn_n (seq (region (oM hH7 rfl rfl ?_)))))
 refine ops_y hH7 rfl rfl (yv_conv Tryz.underlying3 Tryz.underlying151 rfl (wrap_u64 (by omega))) ?_
 refine ops_y hH7 rfl rfl (yv_subK rfl rfl (wrap_u64 (by omega))) ?_
 refine oA hH7 rfl rfl (ops_nil (thn_n (seq (block ?_))))
 refine loop (S := Nat × Nat × List Int) (fun (i, m, C) => [(1, (.int .u64 (m : Int))), (13, (.int .i64 (i : Int))), (0, (.slice none 0 0)), (3, (.bool false)), (4, (.bool false)), (10, (.slice none 0 0)), (11, (str ([] : List UInt8))), (12, (.pointer (some ⟨b1, 0, none⟩))), (14, (.int .u64 4)), (15, (.int .u64 16)), (16, (.int .u64 (16 - 1)))]) (fun (i, m, C) w1 => Heap [bx b1 214 (intsB C), base w] w1 ∧ i ≤ 65 ∧ m < 18446744073709551616 ∧ C.length = 65 ∧ (∀ n ∈ C, 0 ≤ n ∧ n ≤ 255) ∧ (B.hexM m).length + (65 - i) = (B.hexM x.toNat).length ∧ B.hexM m ++ ofB (C.drop i) = B.hexM x.toNat) (fun (i, m, C) => m) (65, x.toNat, (List.replicate 65 0)) (uC rfl (uC rfl (uC rfl (uC rfl (uC rfl (uC rfl (uC rfl (uC rfl (uC rfl (uC rfl (uC rfl (Sub.nil _)))))))))))) ?_ ?_
 ·exact ⟨(Heap.recastBx (n := 0) hH7 rfl (rfl)), by omega, hx, rfl, (by intro n hn; rw [List.eq_of_mem_replicate hn]; omega), rfl, (by rw [show (List.replicate 65 (0 : Int)).drop 65 = [] from rfl]; exact List.append_nil _)⟩
 ·rintro ⟨i, m, C⟩ w8 ⟨hH9, hi, hm, hCl, hCb, hl, hh⟩
  show Holds _ _ _ _ _ [(1, (.int .u64 (m : Int))), (13, (.int .i64 (i : Int))), (0, (.slice none 0 0)), (3, (.bool false)), (4, (.bool false)), (10, (.slice none 0 0)), (11, (str ([] : List UInt8))), (12, (.pointer (some ⟨b1, 0, none⟩))), (14, (.int .u64 4)), (15, (.int .u64 16)), (16, (.int .u64 (16 - 1)))] _ _
  have hml := B.hexM_length m
  refine seq (seq (region (oM hH9 rfl rfl (oM hH9 rfl rfl ?_))))
  refine ops_y hH9 rfl rfl (yv_geq rfl rfl) ?_
  refine ops_nil (thn_n ?_)
  by_cases hc10 : 16 ≤ (m : Int)
  ·skip
   have h16 : 16 ≤ m := by omega
   refine cond_t rfl (dT hc10) ?_
   refine skip (thn_n (block (seq (region (oM hH9 rfl rfl ?_)))))
   refine ops_y hH9 rfl rfl (yv_sub rfl rfl (by omega)) ?_
   refine oA hH9 rfl rfl (ops_nil (thn_n (seq (region (oM hH9 rfl rfl (oM hH9 rfl rfl (oM hH9 rfl rfl ?_)))))))
   refine ops_y hH9 rfl rfl (yv_and15 rfl rfl hm) ?_
   refine ops_y hH9 rfl rfl (yv_cast (B.digs_at m) (yv_idxS Tryz.underlying9 rfl rfl (by first | (rw [B.digs_len]; omega) | (simp only [List.length_cons, List.length_nil]; omega)))) ?_
   refine ops_y hH9 rfl rfl (yv_indexA T.arr214 rfl rfl (by omega)) ?_
   refine op_setAB (n := 0) rfl rfl hH9 rfl T.sz5 (by omega) (fun w11 hH12 => ?_)
   refine ops_nil (thn_n (region (oM hH12 rfl rfl (oM hH12 rfl rfl ?_))))
   refine ops_y hH12 rfl rfl (yv_shr4 rfl rfl) ?_
   refine oA hH12 rfl rfl (ops_nil (blk_n ?_))
   refine lp_n ((i - 1), (m / 16), (C.set (i - 1) ((B.hd m).toNat : Int))) (uC rfl (Sub.cons (congrArg (fun z : Int => some (Value.int .i64 z)) (by omega)) (uC rfl (uC rfl (uC rfl (uC rfl (uC rfl (uC rfl (uC rfl (uC rfl (uC rfl (Sub.nil _)))))))))))) ?_ ?_
   ·exact ⟨(Heap.recastBx (n := 0) hH12 rfl (congrArg (fun k => intsB (C.set k _)) (show ((i : Int) - 1).toNat = i - 1 by omega))), by omega, by omega, (by rw [List.length_set]; exact hCl), B.hex_bytes hCb, (by rw [B.hexM_rec h16 hm, List.length_append, List.length_singleton] at hl; omega), B.hex_step h16 hm (by omega) (by rw [show i - 1 + 1 = i by omega]; exact hh)⟩
   ·first | (dsimp only; omega) | (show _ < _; omega)
  ·skip
   have hs16 : m < 16 := by omega
   refine cond_f rfl (dF hc10) ?_
   refine exit (thn_x (lp_x (blk_here (thn_n (seq (region (oM hH9 rfl rfl ?_)))))))
   refine ops_y hH9 rfl rfl (yv_sub rfl rfl (by omega)) ?_
   refine oA hH9 rfl rfl (ops_nil (thn_n (region (oM hH9 rfl rfl (oM hH9 rfl rfl ?_)))))
   refine ops_y hH9 rfl rfl (yv_cast (B.digs_at2 hs16) (yv_idxS Tryz.underlying9 rfl rfl (by first | (rw [B.digs_len]; omega) | (simp only [List.length_cons, List.length_nil]; omega)))) ?_
   refine ops_y hH9 rfl rfl (yv_indexA T.arr214 rfl rfl (by omega)) ?_
   refine op_setAB (n := 0) rfl rfl hH9 rfl T.sz5 (by omega) (fun w13 hH14 => ?_)
   refine ops_nil (thn_n (seq (seq (region (oM hH14 rfl rfl (ops_nil (thn_n ?_)))))))
   refine cond_f rfl rfl ?_
   refine skip (thn_n (seq (seq (region (oM hH14 rfl rfl (ops_nil (thn_n ?_)))))))
   refine cond_f rfl rfl ?_
   refine skip (thn_n (seq (region (oM hH14 rfl rfl ?_))))
   refine ops_y hH14 rfl rfl (yv_arrFrom T.arr214 rfl rfl rfl (by omega)) ?_
   refine ops_y hH14 rfl rfl (yv_castS (show _ = B.hexM x.toNat by rw [show ((i : Int) - 1).toNat = i - 1 by omega]; exact B.hex_last hs16 (by omega) (by rw [show i - 1 + 1 = i by omega]; exact hh)) (yv_b2s Tryz.underlying110 Tryz.underlying9 Tryz.underlying5 rfl (fun _ hw => ((show Rd encB 1 (.slice (some ⟨b1, ((i : Int) - 1).toNat, none⟩) (65 - ((i : Int) - 1).toNat) (65 - ((i : Int) - 1).toNat)) _ _ from (show (C.set ((i : Int) - 1).toNat ((B.hd m).toNat : Int)).length = 65 from by rw [List.length_set]; exact hCl) ▸ Bx.rdB (Heap.bxw hw (n := 0) rfl) (i := ((i : Int) - 1).toNat) (by rw [List.length_set]; omega)))) ((fun n hn => B.hex_bytes hCb n (by have h := List.mem_of_mem_drop hn; rwa [show ((i : Int) - 1).toNat = i - 1 by omega] at h))))) ?_
   refine oA hH14 rfl rfl (ops_nil (thn_n (ret ?_)))
   have hH15 := (hH14.sub (sC sR))
   refine fin hH15 (fun w' hf => (res2 rfl (show RV _ _ _ (.tmp 10) _ from rfl) (show RV _ _ _ (.tmp 11) _ from rfl))) (fun w' hf => ?_)
   rfl
theorem c146 {x : UInt64} {w : World} (hG : Gl w)  :
  Fn Tryz.prog 146 [(.int .u64 (x.toNat : Int)), (.int .i64 16)].toArray w (fun u _ => u = str (B.hexM x.toNat)) := by
 refine fn_of' (args := [(.int .u64 (x.toNat : Int)), (.int .i64 16)]) Tryz.func146 rfl (ent Tryz.func146 (by kernel_rfl) rfl) rfl rfl (fun hH => ?_)
 refine seq (region (oA hH rfl rfl (ops_nil (thn_n (seq (seq (region (oM hH rfl rfl ?_))))))))
 refine ops_y hH rfl rfl (yv_eql rfl rfl) ?_
 refine ops_nil (thn_n ?_)
 refine cond_f rfl rfl ?_
 refine skip (thn_n (seq (region (oM hH rfl rfl (oM hH rfl rfl ?_)))))
 refine op_fnV rfl rfl rfl hH (c162 (x := x) (hG.now hH (n := 0) rfl)) (fun w1 hH2 => ?_)
 refine oM hH2 rfl rfl (ops_y hH2 rfl rfl (yv_extract rfl rfl) (ops_y hH2 rfl rfl (yv_extract rfl rfl) (oA hH2 rfl rfl (oA hH2 rfl rfl (ops_nil (thn_n (seq (region (oM hH2 rfl rfl ?_)))))))))
 refine oA hH2 rfl rfl (ops_nil (thn_n (ret ?_)))
 refine fin hH2 (fun w' hf => (res1 rfl (show RV _ _ _ (.tmp 4) _ from rfl))) (fun w' hf => ?_)
 rfl
theorem c116 {x : UInt64} {w : World} (hG : Gl w)  :
  Fn Tryz.prog 116 [(.int .u64 (x.toNat : Int)), (.int .i64 16)].toArray w (fun u _ => u = str (B.hexM x.toNat)) := by
 refine fn_of' (args := [(.int .u64 (x.toNat : Int)), (.int .i64 16)]) Tryz.func116 rfl (ent Tryz.func116 (by kernel_rfl) rfl) rfl rfl (fun hH => ?_)
 refine seq (region (oA hH rfl rfl (ops_nil (thn_n (seq (region (oM hH rfl rfl (oM hH rfl rfl ?_))))))))
 refine op_fnV rfl rfl rfl hH (c146 (x := x) (hG.now hH (n := 0) rfl)) (fun w1 hH2 => ?_)
 refine oA hH2 rfl rfl (ops_nil (thn_n (ret ?_)))
 refine fin hH2 (fun w' hf => (res1 rfl (show RV _ _ _ (.tmp 4) _ from rfl))) (fun w' hf => ?_)
 rfl
theorem c86 {x : UInt64} {w : World} (hG : Gl w)  :
  Fn Tryz.prog 86 [(.int .u64 (x.toNat : Int))].toArray w (fun u _ => u = str (B.hex x)) := by
 refine fn_of' (args := [(.int .u64 (x.toNat : Int))]) Tryz.func86 rfl (ent Tryz.func86 (by kernel_rfl) rfl) rfl rfl (fun hH => ?_)
 have hxl := B.hexM_length x.toNat
 have hxp := B.hex_pad x
 have hxr := Lib.repeatL_length [48] (16 - (B.hexM x.toNat).length)
 refine seq (region (oA hH rfl rfl (ops_nil (thn_n (seq (region (oM hH rfl rfl ?_)))))))
 refine op_fnV rfl rfl rfl hH (c116 (x := x) (hG.now hH (n := 0) rfl)) (fun w1 hH2 => ?_)
 refine oA hH2 rfl rfl (ops_nil (thn_n (seq (region (oM hH2 rfl rfl ?_)))))
 refine ops_y hH2 rfl rfl (yv_lenS Tryz.underlying9 rfl) ?_
 refine ops_y hH2 rfl rfl (yv_cast (show _ = ((16 - (B.hexM x.toNat).length : Nat) : Int) by omega) (yv_sub rfl rfl (by omega))) ?_
 refine op_fnV rfl rfl rfl hH2 (c117 (l := ([48] : List UInt8)) (n := (16 - (B.hexM x.toNat).length : Nat)) (by simp only [List.length_cons, List.length_nil]; omega) (by omega)) (fun w3 hH4 => ?_)
 refine oM hH4 rfl rfl ?_
 refine ops_y hH4 rfl rfl (yv_castS hxp (yv_cat rfl rfl (by rw [hxr]; simp only [List.length_cons, List.length_nil]; omega))) ?_
 refine oA hH4 rfl rfl (ops_nil (thn_n (ret ?_)))
 refine fin hH4 (fun w' hf => (res1 rfl (show RV _ _ _ (.tmp 2) _ from rfl))) (fun w' hf => ?_)
 rfl
end Go.Fip
namespace Go.Fip
open Go.Proofs Go.RowKit
theorem B.decD : ∀ n : Nat, n < 10 ^ 20 → Lib.decDigits n = B.dig n := by
 intro n
 induction n using Nat.strongRecOn with
 | _ n ih =>
  intro h
  rw [Lib.decDigits]
  by_cases h9 : n < 10
  ·rw [dif_pos h9, B.dig_small h9]
   unfold B.dg
   rw [Nat.mod_eq_of_lt h9]
  ·rw [dif_neg h9, ih (n / 10) (by omega) (by omega), B.dig_rec (by omega) h]; rfl
theorem B.itoa_dig {n : Int} (h : 0 ≤ n) (h2 : n < 1000000000000000000) : Lib.itoa n = B.dig n.toNat := by
 unfold Lib.itoa
 rw [if_neg (by omega), B.decD _ (Nat.lt_of_lt_of_le (show n.toNat < 1000000000000000000 by omega) B.p18)]
def B.nums (e : En) : List Int := [e.n, e.d, e.f, e.t, e.a]
def B.txtTo (e : En) (k : Nat) : List (List UInt8) := ((B.nums e).take k).map fun n => Lib.itoa n
theorem B.nums_bd {e : En} (h : B.isEn e) {k : Nat} (hk : k < 5) : 0 ≤ nth (B.nums e) (k : Int) ∧ nth (B.nums e) (k : Int) ≤ 1099511627776 := by
 unfold B.isEn at h
 match k, hk with
 | 0, _ => exact ⟨by show 0 ≤ e.n; omega, by show e.n ≤ _; omega⟩
 | 1, _ => exact ⟨by show 0 ≤ e.d; omega, by show e.d ≤ _; omega⟩
 | 2, _ => exact ⟨by show 0 ≤ e.f; omega, by show e.f ≤ _; omega⟩
 | 3, _ => exact ⟨by show 0 ≤ e.t; omega, by show e.t ≤ _; omega⟩
 | 4, _ => exact ⟨by show 0 ≤ e.a; omega, by show e.a ≤ _; omega⟩
theorem B.txtTo_succ {e : En} {k : Nat} (hk : k < 5) : B.txtTo e (k + 1) = B.txtTo e k ++ [Lib.itoa (nth (B.nums e) (k : Int))] := by
 unfold B.txtTo
 rw [List.take_succ_eq_append_getElem (show k < (B.nums e).length from hk), List.map_append, nth_nat (show k < (B.nums e).length from hk)]; rfl
theorem B.txtTo_len {e : En} {k : Nat} : (B.txtTo e k).length ≤ 5 := by unfold B.txtTo; rw [List.length_map, List.length_take]; exact Nat.min_le_right _ _
theorem B.txt_all {e : En} (h : B.isEn e) : Lib.join (B.txtTo e 5) [32] = B.text e := by
 unfold B.isEn at h
 unfold B.text
 rw [← B.itoa_dig (n := e.n) (by omega) (by omega), ← B.itoa_dig (n := e.d) (by omega) (by omega), ← B.itoa_dig (n := e.f) (by omega) (by omega), ← B.itoa_dig (n := e.t) (by omega) (by omega), ← B.itoa_dig (n := e.a) (by omega) (by omega)]
 show Lib.join [Lib.itoa e.n, Lib.itoa e.d, Lib.itoa e.f, Lib.itoa e.t, Lib.itoa e.a] [32] = _
 rw [Lib.join_cons]
 simp [Lib.joinTail]
theorem B.dig_len7 {n : Int} (h : 0 ≤ n) (h2 : n ≤ 1099511627776) : (B.dig n.toNat).length ≤ 21 := B.dig_len (by omega)
theorem B.text_len {e : En} (h : B.isEn e) : (B.text e).length ≤ 109 := by
 unfold B.isEn at h
 have h1 := B.dig_len7 (n := e.n) (by omega) (by omega)
 have h2 := B.dig_len7 (n := e.d) (by omega) (by omega)
 have h3 := B.dig_len7 (n := e.f) (by omega) (by omega)
 have h4 := B.dig_len7 (n := e.t) (by omega) (by omega)
 have h5 := B.dig_len7 (n := e.a) (by omega) (by omega)
 unfold B.text
 simp only [List.length_append, List.length_cons, List.length_nil]
 omega
theorem B.nth_toB {l : List UInt8} {k : Nat} (h : k < l.length) : nth (toB l) (k : Int) = ((l.getD k 0).toUInt64.toNat : Int) := by
 rw [nth_nat (by rw [toB_length]; exact h)]
 unfold toB
 rw [List.getElem_map, List.getD_eq_getElem?_getD, List.getElem?_eq_getElem h]; simp
theorem c73 {e : En} {w : World} (hG : Gl w) (he : B.isEn e)  :
  Fn Tryz.prog 73 [(.agg #[(.int .i64 e.n), (.int .i64 e.d), (.int .i64 e.f), (.int .i64 e.t), (.int .i64 e.a)])].toArray w (fun u _ => u = str (B.text e)) := by
 refine fn_of' (args := [(.agg #[(.int .i64 e.n), (.int .i64 e.d), (.int .i64 e.f), (.int .i64 e.t), (.int .i64 e.a)])]) Tryz.func73 rfl (ent Tryz.func73 (by kernel_rfl) rfl) rfl rfl (fun hH => ?_)
 have htl := B.text_len he
 have hall := B.txt_all he
 refine seq (region ?_)
 refine op_box (us := [(.int .i64 e.n), (.int .i64 e.d), (.int .i64 e.f), (.int .i64 e.t), (.int .i64 e.a)]) rfl rfl rfl hH (fun b1 w2 hH3 => ?_)
 refine oA hH3 rfl rfl (ops_nil (thn_n (seq (region (oA hH3 rfl rfl (ops_nil (thn_n (seq (seq ?_)))))))))
 refine region ?_
 refine ops_y hH3 rfl rfl (yv_field T.f38_0 rfl) ?_
 refine ops_y hH3 rfl rfl (yv_load T.one2 rfl (fun _ hw => Heap.cellw hw (n := 0) rfl rfl)) ?_
 refine ops_y hH3 rfl rfl (yv_field T.f38_1 rfl) ?_
 refine ops_y hH3 rfl rfl (yv_load T.one2 rfl (fun _ hw => Heap.cellw hw (n := 0) rfl rfl)) ?_
 refine ops_y hH3 rfl rfl (yv_field T.f38_2 rfl) ?_
 refine ops_y hH3 rfl rfl (yv_load T.one2 rfl (fun _ hw => Heap.cellw hw (n := 0) rfl rfl)) ?_
 refine ops_y hH3 rfl rfl (yv_field T.f38_3 rfl) ?_
 refine ops_y hH3 rfl rfl (yv_load T.one2 rfl (fun _ hw => Heap.cellw hw (n := 0) rfl rfl)) ?_
 refine ops_y hH3 rfl rfl (yv_field T.f38_4 rfl) ?_
 refine ops_y hH3 rfl rfl (yv_load T.one2 rfl (fun _ hw => Heap.cellw hw (n := 0) rfl rfl)) ?_
 refine op_lit (us := [(0, (.int .i64 e.n)), (1, (.int .i64 e.d)), (2, (.int .i64 e.f)), (3, (.int .i64 e.t)), (4, (.int .i64 e.a))]) T.el131_encI [e.n, e.d, e.f, e.t, e.a] rfl (by decide) rfl (fun a ha => by simp [ha.ev (show ev _ (.tmp 7) = some _ from rfl), ha.ev (show ev _ (.tmp 9) = some _ from rfl), ha.ev (show ev _ (.tmp 11) = some _ from rfl), ha.ev (show ev _ (.tmp 13) = some _ from rfl), ha.ev (show ev _ (.tmp 15) = some _ from rfl)]) (fun w => by kernel_rfl) hH3 (fun u4 lo6 hi7 w5 hH8 => ?_)
 refine ops_y hH8 rfl rfl (yv_len T.sl131 rfl (Heap.rdw T.el131_encI hH8 (n := 0) rfl).is) ?_
 refine oM hH8 rfl rfl (ops_nil (thn_n (block ?_)))
 have hH9 := ow_nil (enc := encT) 9 1 hH8
 refine loop (S := Nat × Value × Nat × Nat) (fun (k, v_3, lo_3, hi_3) => [(18, (.int .i64 (k : Int))), (3, v_3), (2, (str ([] : List UInt8))), (16, u4), (17, (.int .i64 ([e.n, e.d, e.f, e.t, e.a].length : Int)))]) (fun (k, v_3, lo_3, hi_3) w1 => Heap [ow lo_3 hi_3 9 1 encT v_3 (B.txtTo e k), ow lo6 hi7 2 1 encI u4 [e.n, e.d, e.f, e.t, e.a], bx b1 38 [(.int .i64 e.n), (.int .i64 e.d), (.int .i64 e.f), (.int .i64 e.t), (.int .i64 e.a)], base w] w1 ∧ k ≤ 5) (fun (k, v_3, lo_3, hi_3) => 5 - k) (0, (.slice none 0 0), w5.heap.size, w5.heap.size) (uC rfl (uC rfl (uC rfl (uC rfl (uC rfl (Sub.nil _)))))) ?_ ?_
 ·exact ⟨(Heap.recast (n := 0) hH9 rfl (rfl)), by omega⟩
 ·rintro ⟨k, v_3, lo_3, hi_3⟩ w10 ⟨hH11, hk⟩
  show Holds _ _ _ _ _ [(18, (.int .i64 (k : Int))), (3, v_3), (2, (str ([] : List UInt8))), (16, u4), (17, (.int .i64 ([e.n, e.d, e.f, e.t, e.a].length : Int)))] _ _
  refine seq (region ?_)
  refine ops_y hH11 rfl rfl (yv_lss rfl rfl) ?_
  refine ops_nil (thn_n (seq ?_))
  by_cases hc12 : (k : Int) < ([e.n, e.d, e.f, e.t, e.a].length : Int)
  ·skip
   refine cond_t rfl (dT hc12) ?_
   refine skip (thn_n (seq (block (seq (region ?_)))))
   refine ops_y hH11 rfl rfl (yv_index T.sl131 rfl rfl (Heap.rdw T.el131_encI hH11 (n := 1) rfl).is (by simp only [List.length_cons, List.length_nil] at *; omega)) ?_
   refine ops_y hH11 rfl rfl (yv_load T.one2 rfl (fun _ hw => Rd.at (Heap.rdw T.el131_encI hw (n := 1) rfl) (i := (k : Int)) (by simp only [List.length_cons, List.length_nil] at *; omega) (j := 0) rfl)) ?_
   refine oA hH11 rfl rfl (ops_nil (thn_n ?_))
   have hk5 : k < 5 := by simp only [List.length_cons, List.length_nil] at *; omega
   have hnb : 0 ≤ nth [e.n, e.d, e.f, e.t, e.a] (k : Int) ∧ nth [e.n, e.d, e.f, e.t, e.a] (k : Int) ≤ 1099511627776 := B.nums_bd he hk5
   have htl5 := B.txtTo_len (e := e) (k := k)
   refine region (oM hH11 rfl rfl (oM hH11 rfl rfl ?_))
   refine op_fnV rfl rfl rfl hH11 (c108 (n := nth [e.n, e.d, e.f, e.t, e.a] (k : Int)) (hG.now hH11 (n := 3) rfl) (by omega) (by omega)) (fun w13 hH14 => ?_)
   refine op_lit (us := [(0, (str (Lib.itoa (nth [e.n, e.d, e.f, e.t, e.a] (k : Int)))))]) T.el56_encT [(Lib.itoa (nth [e.n, e.d, e.f, e.t, e.a] (k : Int)))] rfl (by decide) rfl (fun a ha => by simp [ha.ev (show ev _ (.tmp 24) = some _ from rfl)] <;> rfl) (fun w => by kernel_rfl) hH14 (fun u15 lo17 hi18 w16 hH19 => ?_)
   refine op_append (n := 1) T.el56_encT rfl rfl rfl hH19 rfl (Heap.rdw T.el56_encT hH19 (n := 0) rfl) (by first | omega | (simp only [List.length_append, List.length_cons, List.length_nil]; omega)) (fun u20 lo22 hi23 w21 hH24 => ?_)
   refine oA hH24 rfl rfl (ops_nil (blk_n (thn_n (region ?_))))
   refine ops_y hH24 rfl rfl (yv_add rfl rfl (by omega)) ?_
   refine oM hH24 rfl rfl (ops_nil ?_)
   have hH25 := (hH24.sub (sC sR))
   refine lp_n (k + 1, u20, lo22, hi23) (uC rfl (uC rfl (uC rfl (uC rfl (uC rfl (Sub.nil _)))))) ?_ ?_
   ·exact ⟨(Heap.recast (n := 0) hH25 rfl ((B.txtTo_succ (by simp only [List.length_cons, List.length_nil] at *; omega)).symm)), by simp only [List.length_cons, List.length_nil] at *; omega⟩
   ·(simp only [List.length_cons, List.length_nil] at *; omega)
  ·skip
   refine cond_f rfl (dF hc12) ?_
   refine exit (thn_x (lp_x (blk_here (thn_n (seq ?_)))))
   have hk5 : k = 5 := by simp only [List.length_cons, List.length_nil] at *; omega
   subst hk5
   have htl5 := B.txtTo_len (e := e) (k := 5)
   refine region (oM hH11 rfl rfl ?_)
   refine op_fnV rfl rfl rfl hH11 (c109 (sep := ([32] : List UInt8)) (Heap.rdw T.el56_encT hH11 (n := 0) rfl) (by omega) (by rw [hall]; omega)) (fun w26 hH27 => ?_)
   refine oA hH27 rfl rfl (ops_nil (thn_n (ret ?_)))
   have hH28 := (hH27.sub (sC (sC (sC sR))))
   refine fin hH28 (fun w' hf => (res1 rfl (show RV _ _ _ (.tmp 2) _ from rfl))) (fun w' hf => ?_)
   first | exact congrArg str hall
theorem c68 {l : List UInt8} {w : World} (hn : l.length ≤ 1000000)  :
  Fn Tryz.prog 68 [(str l)].toArray w (fun u _ => u = .int .u64 ((B.sm l).toNat : Int)) := by
 refine fn_of' (args := [(str l)]) Tryz.func68 rfl (ent Tryz.func68 (by kernel_rfl) rfl) rfl rfl (fun hH => ?_)
 have hbl : (toB l).length = l.length := toB_length
 refine seq (region (oA hH rfl rfl (ops_nil (thn_n (seq (region (oA hH rfl rfl (ops_nil (thn_n ?_)))))))))
 refine seq (seq (region (oM hH rfl rfl ?_)))
 refine op_s2b Tryz.underlying9 Tryz.underlying110 Tryz.underlying5 rfl rfl hH (fun u1 lo2 hi3 w4 hH5 _ => ?_)
 refine ops_y hH5 rfl rfl (yv_len T.sl110 rfl ((show Rd encB 1 u1 (toB l) _ from hH5.get (n := 0) rfl)).is) ?_
 refine oM hH5 rfl rfl (ops_nil (thn_n (block ?_)))
 refine loop (S := Nat) (fun k => [(9, (.int .i64 (k : Int))), (3, (.int .u64 ((B.smTo l k).toNat : Int))), (2, (.int .u64 0)), (7, u1), (8, (.int .i64 ((toB l).length : Int)))]) (fun k w1 => Heap [⟨lo2, hi3, Rd encB 1 u1 (toB l)⟩, base w] w1 ∧ k ≤ l.length) (fun k => l.length - k) (0) (uC rfl (uC rfl (uC rfl (uC rfl (uC rfl (Sub.nil _)))))) ?_ ?_
 ·exact ⟨hH5, by omega⟩
 ·rintro k w6 ⟨hH7, hk⟩
  show Holds _ _ _ _ _ [(9, (.int .i64 (k : Int))), (3, (.int .u64 ((B.smTo l k).toNat : Int))), (2, (.int .u64 0)), (7, u1), (8, (.int .i64 ((toB l).length : Int)))] _ _
  refine seq (region ?_)
  refine ops_y hH7 rfl rfl (yv_lss rfl rfl) ?_
  refine ops_nil (thn_n (seq ?_))
  by_cases hc8 : (k : Int) < ((toB l).length : Int)
  ·skip
   refine cond_t rfl (dT hc8) ?_
   refine skip (thn_n (seq (block (seq (region ?_)))))
   refine ops_y hH7 rfl rfl (yv_index T.sl110 rfl rfl ((show Rd encB 1 u1 (toB l) _ from hH7.get (n := 0) rfl)).is (by omega)) ?_
   refine ops_y hH7 rfl rfl (yv_load T.one5 rfl (fun _ hw => Rd.at ((show Rd encB 1 u1 (toB l) _ from hw.get (n := 0) rfl)) (i := (k : Int)) (by omega) (j := 0) rfl)) ?_
   refine oA hH7 rfl rfl (ops_nil (thn_n (region (oM hH7 rfl rfl (oM hH7 rfl rfl ?_)))))
   refine ops_y hH7 rfl rfl (yv_cast (B.nth_toB (by omega)) (yv_conv Tryz.underlying5 Tryz.underlying32 rfl (by rw [B.nth_toB (by omega)]; exact wrap_u64 (by have := (l.getD k 0).toUInt64.toNat_lt; omega)))) ?_
   refine ops_y hH7 rfl rfl (yv_xorW (a := B.smTo l k) (b := (l.getD k 0).toUInt64) rfl rfl) ?_
   refine ops_y hH7 rfl rfl (yv_mulW (a := (B.smTo l k) ^^^ ((l.getD k 0).toUInt64)) (b := (1099511628211 : UInt64)) rfl rfl) ?_
   refine oA hH7 rfl rfl (ops_nil (blk_n (thn_n (region ?_))))
   refine ops_y hH7 rfl rfl (yv_add rfl rfl (by omega)) ?_
   refine oM hH7 rfl rfl (ops_nil ?_)
   refine lp_n (k + 1) (uC rfl (Sub.cons (congrArg (fun z : Int => some (Value.int .u64 z)) (by rw [B.smTo_succ (by omega)])) (uC rfl (uC rfl (uC rfl (Sub.nil _)))))) ?_ ?_
   ·exact ⟨hH7, by omega⟩
   ·first | (dsimp only; omega) | (show _ < _; omega)
  ·skip
   refine cond_f rfl (dF hc8) ?_
   refine exit (thn_x (lp_x (blk_here (thn_n (seq (region (oM hH7 rfl rfl (oA hH7 rfl rfl (ops_nil ?_)))))))))
   refine thn_n (ret ?_)
   have hH9 := (hH7.sub (sC sR))
   refine fin hH9 (fun w' hf => (res1 rfl (show RV _ _ _ (.tmp 2) _ from rfl))) (fun w' hf => ?_)
   rw [B.smTo_all (by omega)]
theorem c76 {x y : UInt64} {w : World} (hG : Gl w)  :
  Fn Tryz.prog 76 [(.int .u64 (x.toNat : Int)), (.int .u64 (y.toNat : Int))].toArray w (fun u _ => u = .int .u64 ((B.sm (B.both x y)).toNat : Int)) := by
 refine fn_of' (args := [(.int .u64 (x.toNat : Int)), (.int .u64 (y.toNat : Int))]) Tryz.func76 rfl (ent Tryz.func76 (by kernel_rfl) rfl) rfl rfl (fun hH => ?_)
 have hxl1 := B.hex_length x
 have hxl2 := B.hex_length y
 refine seq (region (oA hH rfl rfl (ops_nil (thn_n (seq (region (oM hH rfl rfl ?_)))))))
 refine op_fnV rfl rfl rfl hH (c86 (x := x) (hG.now hH (n := 0) rfl)) (fun w1 hH2 => ?_)
 refine ops_y hH2 rfl rfl (yv_cat rfl rfl (by first | omega | (simp only [List.length_append, List.length_cons, List.length_nil]; omega))) ?_
 refine oM hH2 rfl rfl ?_
 refine op_fnV rfl rfl rfl hH2 (c86 (x := y) (hG.now hH2 (n := 0) rfl)) (fun w3 hH4 => ?_)
 refine ops_y hH4 rfl rfl (yv_cat rfl rfl (by first | omega | (simp only [List.length_append, List.length_cons, List.length_nil]; omega))) ?_
 refine op_fnV rfl rfl rfl hH4 (c68 (by first | omega | (simp only [List.length_append, List.length_cons, List.length_nil]; omega))) (fun w5 hH6 => ?_)
 refine oA hH6 rfl rfl (ops_nil (thn_n (ret ?_)))
 refine fin hH6 (fun w' hf => (res1 rfl (show RV _ _ _ (.tmp 4) _ from rfl))) (fun w' hf => ?_)
 rfl
theorem c97 {x y : UInt64} {w : World}  :
  Fn Tryz.prog 97 [(.int .u64 (x.toNat : Int)), (.int .u64 (y.toNat : Int))].toArray w (fun u _ => u = str (B.both x y)) := by
 refine fn_of' (args := [(.int .u64 (x.toNat : Int)), (.int .u64 (y.toNat : Int))]) Tryz.func97 rfl (ent Tryz.func97 (by kernel_rfl) rfl) rfl rfl (fun hH => ?_)
 have hxl1 := B.hex_length x
 have hxl2 := B.hex_length y
 refine seq (region (oA hH rfl rfl (ops_nil (thn_n (seq (region (oM hH rfl rfl ?_)))))))
 refine op_fnV rfl rfl rfl hH (c55 ) (fun w1 hH2 => ?_)
 refine ops_y hH2 rfl rfl (yv_cat rfl rfl (by first | omega | (simp only [List.length_append, List.length_cons, List.length_nil]; omega))) ?_
 refine oM hH2 rfl rfl ?_
 refine op_fnV rfl rfl rfl hH2 (c55 ) (fun w3 hH4 => ?_)
 refine ops_y hH4 rfl rfl (yv_cat rfl rfl (by first | omega | (simp only [List.length_append, List.length_cons, List.length_nil]; omega))) ?_
 refine oA hH4 rfl rfl (ops_nil (thn_n (ret ?_)))
 refine fin hH4 (fun w' hf => (res1 rfl (show RV _ _ _ (.tmp 4) _ from rfl))) (fun w' hf => ?_)
 rfl
theorem c129i {n : Int} {w : World} (h0 : 0 ≤ n) (h1 : n < 1000000000000000000) : Fn Tryz.prog 129 #[.int .i64 n] w (fun u _ => u = str (B.dig n.toNat)) := by
 have h := c129 (n := n.toNat) (w := w) (by omega)
 rwa [Int.toNat_of_nonneg h0] at h
theorem c99 {e : En} {w : World} (he : B.isEn e)  :
  Fn Tryz.prog 99 [(.agg #[(.int .i64 e.n), (.int .i64 e.d), (.int .i64 e.f), (.int .i64 e.t), (.int .i64 e.a)])].toArray w (fun u _ => u = str (B.text e)) := by
 refine fn_of' (args := [(.agg #[(.int .i64 e.n), (.int .i64 e.d), (.int .i64 e.f), (.int .i64 e.t), (.int .i64 e.a)])]) Tryz.func99 rfl (ent Tryz.func99 (by kernel_rfl) rfl) rfl rfl (fun hH => ?_)
 have he2 := he
 unfold B.isEn at he2
 have hdn := B.dig_len7 (n := e.n) (by omega) (by omega)
 have hdd := B.dig_len7 (n := e.d) (by omega) (by omega)
 have hdf := B.dig_len7 (n := e.f) (by omega) (by omega)
 have hdt := B.dig_len7 (n := e.t) (by omega) (by omega)
 have hda := B.dig_len7 (n := e.a) (by omega) (by omega)
 refine seq (region ?_)
 refine op_box (us := [(.int .i64 e.n), (.int .i64 e.d), (.int .i64 e.f), (.int .i64 e.t), (.int .i64 e.a)]) rfl rfl rfl hH (fun b1 w2 hH3 => ?_)
 refine oA hH3 rfl rfl (ops_nil (thn_n (seq ?_)))
 refine region_draw (fun w' => Heap [bx b1 38 [(.int .i64 e.n), (.int .i64 e.d), (.int .i64 e.f), (.int .i64 e.t), (.int .i64 e.a)], base w] w') T.mixed (fun w4 hr5 => ?_)
 have hH6 := hH3.redrawn hr5
 refine any_takes [0, 1, 4, 5, 9, 10, 14, 15, 19, 20] (by kernel_rfl) hH6 _ _ _ (by kernel_rfl) ?_
 refine qs_y rfl rfl (yv_field T.f38_0 rfl) ?_
 refine qs_y rfl rfl (yv_load T.one2 rfl (fun _ hw => Heap.cellw hw (n := 0) rfl rfl)) ?_
 refine qs_y rfl rfl (yv_field T.f38_1 rfl) ?_
 refine qs_y rfl rfl (yv_load T.one2 rfl (fun _ hw => Heap.cellw hw (n := 0) rfl rfl)) ?_
 refine qs_y rfl rfl (yv_field T.f38_2 rfl) ?_
 refine qs_y rfl rfl (yv_load T.one2 rfl (fun _ hw => Heap.cellw hw (n := 0) rfl rfl)) ?_
 refine qs_y rfl rfl (yv_field T.f38_3 rfl) ?_
 refine qs_y rfl rfl (yv_load T.one2 rfl (fun _ hw => Heap.cellw hw (n := 0) rfl rfl)) ?_
 refine qs_y rfl rfl (yv_field T.f38_4 rfl) ?_
 refine qs_y rfl rfl (yv_load T.one2 rfl (fun _ hw => Heap.cellw hw (n := 0) rfl rfl)) ?_
 refine qs_nil ?_
 refine any_all [2] (by kernel_rfl) rfl ?_
 refine ⟨⟨_, rfl, ?_⟩, trivial⟩
 ·skip
  refine op_fnV rfl rfl rfl hH6 (c129i (by omega) (by omega)) (fun w7 hH8 => ?_)
  refine ops_nil ?_
  refine ⟨hH8, ?_⟩
  refine any_takes [3] (by kernel_rfl) hH8 _ _ _ (by kernel_rfl) ?_
  refine qs_y rfl rfl (yv_cat rfl rfl (by first | omega | (simp only [List.length_append, List.length_cons, List.length_nil]; omega))) ?_
  refine qs_nil ?_
  refine any_all [6] (by kernel_rfl) rfl ?_
  refine ⟨⟨_, rfl, ?_⟩, trivial⟩
  ·skip
   refine op_fnV rfl rfl rfl hH8 (c129i (by omega) (by omega)) (fun w9 hH10 => ?_)
   refine ops_nil ?_
   refine ⟨hH10, ?_⟩
   refine any_takes [7, 8] (by kernel_rfl) hH10 _ _ _ (by kernel_rfl) ?_
   refine qs_y rfl rfl (yv_cat rfl rfl (by first | omega | (simp only [List.length_append, List.length_cons, List.length_nil]; omega))) ?_
   refine qs_y rfl rfl (yv_cat rfl rfl (by first | omega | (simp only [List.length_append, List.length_cons, List.length_nil]; omega))) ?_
   refine qs_nil ?_
   refine any_all [11] (by kernel_rfl) rfl ?_
   refine ⟨⟨_, rfl, ?_⟩, trivial⟩
   ·skip
    refine op_fnV rfl rfl rfl hH10 (c129i (by omega) (by omega)) (fun w11 hH12 => ?_)
    refine ops_nil ?_
    refine ⟨hH12, ?_⟩
    refine any_takes [12, 13] (by kernel_rfl) hH12 _ _ _ (by kernel_rfl) ?_
    refine qs_y rfl rfl (yv_cat rfl rfl (by first | omega | (simp only [List.length_append, List.length_cons, List.length_nil]; omega))) ?_
    refine qs_y rfl rfl (yv_cat rfl rfl (by first | omega | (simp only [List.length_append, List.length_cons, List.length_nil]; omega))) ?_
    refine qs_nil ?_
    refine any_all [16] (by kernel_rfl) rfl ?_
    refine ⟨⟨_, rfl, ?_⟩, trivial⟩
    ·skip
     refine op_fnV rfl rfl rfl hH12 (c129i (by omega) (by omega)) (fun w13 hH14 => ?_)
     refine ops_nil ?_
     refine ⟨hH14, ?_⟩
     refine any_takes [17, 18] (by kernel_rfl) hH14 _ _ _ (by kernel_rfl) ?_
     refine qs_y rfl rfl (yv_cat rfl rfl (by first | omega | (simp only [List.length_append, List.length_cons, List.length_nil]; omega))) ?_
     refine qs_y rfl rfl (yv_cat rfl rfl (by first | omega | (simp only [List.length_append, List.length_cons, List.length_nil]; omega))) ?_
     refine qs_nil ?_
     refine any_all [21] (by kernel_rfl) rfl ?_
     refine ⟨⟨_, rfl, ?_⟩, trivial⟩
     ·skip
      refine op_fnV rfl rfl rfl hH14 (c129i (by omega) (by omega)) (fun w15 hH16 => ?_)
      refine ops_nil ?_
      refine ⟨hH16, ?_⟩
      refine any_takes [22, 23] (by kernel_rfl) hH16 _ _ _ (by kernel_rfl) ?_
      refine qs_y rfl rfl (yv_cat rfl rfl (by first | omega | (simp only [List.length_append, List.length_cons, List.length_nil]; omega))) ?_
      refine qs_y rfl rfl (yv_assign rfl) (qs_nil ?_)
      refine any_done (by kernel_rfl) ?_
      refine thn_n (ret ?_)
      have hH17 := (hH16.sub (sC sR))
      refine fin hH17 (fun w' hf => (res1 rfl (show RV _ _ _ (.tmp 2) _ from rfl))) (fun w' hf => ?_)
      rfl
theorem c95 {e : En} {w : World} (he : B.isEn e)  :
  Fn Tryz.prog 95 [(.agg #[(.int .i64 e.n), (.int .i64 e.d), (.int .i64 e.f), (.int .i64 e.t), (.int .i64 e.a)])].toArray w (fun u _ => u = str (B.leaf e)) := by
 refine fn_of' (args := [(.agg #[(.int .i64 e.n), (.int .i64 e.d), (.int .i64 e.f), (.int .i64 e.t), (.int .i64 e.a)])]) Tryz.func95 rfl (ent Tryz.func95 (by kernel_rfl) rfl) rfl rfl (fun hH => ?_)
 have htl := B.text_len he
 refine seq (region ?_)
 refine op_box (us := [(.int .i64 e.n), (.int .i64 e.d), (.int .i64 e.f), (.int .i64 e.t), (.int .i64 e.a)]) rfl rfl rfl hH (fun b1 w2 hH3 => ?_)
 refine oA hH3 rfl rfl (ops_nil (thn_n (seq (region ?_))))
 refine ops_y hH3 rfl rfl (yv_loadA (cs := [(.int .i64 e.n), (.int .i64 e.d), (.int .i64 e.f), (.int .i64 e.t), (.int .i64 e.a)]) T.agg38 rfl rfl (fun _ hw => Heap.cellsw hw (n := 0) rfl (k := 0) rfl)) ?_
 refine op_fnV rfl rfl rfl hH3 (c99 (e := e) (by assumption)) (fun w4 hH5 => ?_)
 refine ops_y hH5 rfl rfl (yv_cat rfl rfl (by first | omega | (simp only [List.length_append, List.length_cons, List.length_nil]; omega))) ?_
 refine oA hH5 rfl rfl (ops_nil (thn_n (ret ?_)))
 have hH6 := (hH5.sub (sC sR))
 refine fin hH6 (fun w' hf => (res1 rfl (show RV _ _ _ (.tmp 2) _ from rfl))) (fun w' hf => ?_)
 rfl
end Go.Fip
