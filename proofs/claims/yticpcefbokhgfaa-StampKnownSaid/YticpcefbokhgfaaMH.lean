/- Joined texts: V1, V2, V3. -/
import Derived.Test.YticpcefbokhgfaaMG
import Derived.Test.YticpcefbokhgfaaMC
set_option linter.unusedVariables false
set_option linter.unusedSimpArgs false
set_option linter.unusedSectionVars false
set_option linter.unnecessarySimpa false
namespace Go.Fip
open Go.Proofs Go.RowKit

theorem tup3n {a b c a' b' c' : Int} (ha : a = a') (hb : b = b') (hc : c = c') : Value.tuple #[.int .i64 a, .int .i64 b, .int .i64 c] = .tuple #[.int .i64 a', .int .i64 b', .int .i64 c'] := by subst ha hb hc; rfl
theorem tspan {p : (Int × Int) × Int} {a b c : Int} (h : p = ((a, b), c)) : Value.tuple #[.agg #[.int .i64 a, .int .i64 b], .int .i64 c] = .tuple #[.agg #[.int .i64 p.1.1, .int .i64 p.1.2], .int .i64 p.2] := by subst h; rfl
theorem led_step {p : Nat → Prop} {j : Nat} {led x : Bool} (h : led = true ↔ ∃ t, t < j ∧ p t) (hx : x = true ↔ led = true ∨ p j) : x = true ↔ ∃ t, t < j + 1 ∧ p t := by
  rw [hx, h]
  constructor
  · rintro (⟨t, ht, hp⟩ | hp)
    · exact ⟨t, by omega, hp⟩
    · exact ⟨j, Nat.lt_succ_self j, hp⟩
  · rintro ⟨t, ht, hp⟩
    rcases Nat.lt_or_ge t j with h1 | h1
    · exact .inl ⟨t, h1, hp⟩
    · rw [show t = j by omega] at hp; exact .inr hp
theorem fact_cast {k : Nat} : ((S.fact k : Nat) : Int) * ((k : Int) + 1) = ((S.fact (k + 1) : Nat) : Int) := by
  show _ = ((S.fact k * (k + 1) : Nat) : Int)
  rw [Int.natCast_mul]; rfl
theorem fact_le {k : Nat} (h : k ≤ 10) : S.fact k ≤ 3628800 := S.fact_mono h
theorem placeTo {l o : List Int} {q : Nat} (hl : o.length = l.length) (hq : q < l.length) (h : ∀ i, i < q → nth o (i : Int) = S.place l (i : Int)) : ∀ i, i < q + 1 → nth (o.set ((q : Int)).toNat (S.place l (q : Int))) (i : Int) = S.place l (i : Int) := fun i hi => by
  rw [S.nth_set' (by omega) (by omega) (by omega) (by omega)]
  split
  · rename_i e; rw [e]
  · exact h i (by omega)

theorem c99 {v : Value} {l : List Int} {w : World} (h0 : Rd encI 1 v l w) (hn : l.length ≤ 1000000) (hr : S.Rg l)  :
    Fn Try.prog 99 [v].toArray w (fun u w => ∃ b v, u = .tuple #[.pointer (some ⟨b, 0, none⟩), .int .i64 ((S.ends l).length : Int), .int .i64 0] ∧ Bench 89 b v (S.best l) w) := by
  refine fn_of' (args := [v]) Try.func99 rfl (ent Try.func99 (by kernel_rfl) rfl) rfl rfl (fun hH => ?_)
  have hc := S.check_iff.2 hr
  have hl1 := hr.1
  have hl10 := hr.2.1
  have hbl := S.best_length (k := l)
  refine seq (region (ops_y hH rfl rfl (yv_assign rfl) (ops_y hH rfl rfl (yv_assign rfl) (ops_y hH rfl rfl (yv_assign rfl) (ops_nil (thn_n (seq (seq (region ?_)))))))))
  refine ops_y hH rfl rfl (yv_move rfl) ?_
  have hev3 : Fn Try.prog 54 [v].toArray _ _ := c54 (h0.now hH (n := 0) rfl) (by omega)
  simp only [hc] at hev3
  refine op_fnV rfl rfl rfl hH (hev3) (fun w1 hH2 => ?_)
  refine ops_y hH2 rfl rfl (yv_assign rfl) (ops_nil (thn_n (seq (region (ops_y hH2 rfl rfl (yv_move rfl) ?_)))))
  refine ops_y hH2 rfl rfl (yv_neq rfl rfl) ?_
  refine ops_nil (thn_n ?_)
  refine cond_f rfl rfl ?_
  refine skip (thn_n (seq (region (ops_y hH2 rfl rfl (yv_move rfl) ?_))))
  refine ops_y hH2 rfl rfl (yv_len T.sl22 rfl (h0.now hH2 (n := 0) rfl).is) ?_
  refine op_make T.el22_encI (0 : Int) T.z22_encI rfl rfl rfl hH2 (by omega) (by omega) (fun u4 lo6 hi7 w5 hH8 => ?_)
  refine ops_y hH8 rfl rfl (yv_assign rfl) (ops_nil (thn_n (seq (seq (region (ops_y hH8 rfl rfl (yv_move rfl) ?_))))))
  refine ops_y hH8 rfl rfl (yv_len T.sl22 rfl (Heap.rdw T.el22_encI hH8 (n := 0) rfl).is) ?_
  refine ops_y hH8 rfl rfl (yv_move rfl) (ops_nil (thn_n (block ?_)))
  refine loop (S := Nat × List Int × Value × Nat × Nat) (fun (k, o, v_6, lo_6, hi_6) => [(23, (.int .i64 (k : Int))), (6, v_6), (0, v), (2, (.pointer none)), (3, (.int .i64 0)), (4, (.int .i64 0)), (22, (.int .i64 ((List.replicate (l.length : Int).toNat (0 : Int)).length : Int)))]) (fun (k, o, v_6, lo_6, hi_6) w1 => Heap [ow lo_6 hi_6 3 1 encI v_6 o, base w] w1 ∧ k ≤ l.length ∧ o.length = l.length ∧ ∀ i, i < k → nth o (i : Int) = S.place l (i : Int)) (fun (k, o, v_6, lo_6, hi_6) => l.length - k) (0, (List.replicate ((l.length : Int)).toNat (0 : Int)), u4, lo6, hi7) (Sub.cons rfl (Sub.cons rfl (Sub.cons rfl (Sub.cons rfl (Sub.cons rfl (Sub.cons rfl (Sub.cons rfl (Sub.nil _)))))))) ?_ ?_
  · exact ⟨hH8, by omega, by simp, S.all_zero⟩
  · rintro ⟨k, o, v_6, lo_6, hi_6⟩ w9 ⟨hH10, hk, hol, ho⟩
    show Holds _ _ _ _ _ [(23, (.int .i64 (k : Int))), (6, v_6), (0, v), (2, (.pointer none)), (3, (.int .i64 0)), (4, (.int .i64 0)), (22, (.int .i64 ((List.replicate (l.length : Int).toNat (0 : Int)).length : Int)))] _ _
    have hrp : (List.replicate ((l.length : Int)).toNat (0 : Int)).length = l.length := by simp
    refine seq (region ?_)
    refine ops_y hH10 rfl rfl (yv_lss rfl rfl) ?_
    refine ops_nil (thn_n (seq ?_))
    by_cases hc11 : (k : Int) < ((List.replicate (l.length : Int).toNat (0 : Int)).length : Int)
    · skip
      refine cond_t rfl (decide_eq_true hc11) ?_
      refine skip (thn_n (seq (block (seq (region (ops_y hH10 rfl rfl (yv_move rfl) (ops_y hH10 rfl rfl (yv_assign rfl) (ops_nil (thn_n ?_)))))))))
      refine region (ops_y hH10 rfl rfl (yv_move rfl) (ops_y hH10 rfl rfl (yv_move rfl) (ops_y hH10 rfl rfl (yv_move rfl) (ops_y hH10 rfl rfl (yv_move rfl) ?_))))
      refine op_fnV rfl rfl rfl hH10 (c116 (h0.now hH10 (n := 1) rfl) (by omega)) (fun w12 hH13 => ?_)
      refine ops_y hH13 rfl rfl (yv_index T.sl22 rfl rfl (Heap.rdw T.el22_encI hH13 (n := 0) rfl).is (by omega)) ?_
      refine op_setE (n := 0) (i := (k : Int)) (k := 0) (us := [(.int .i64 (S.place l (k : Int)))]) (z := (S.place l (k : Int))) T.el22_encI rfl rfl hH13 rfl (by omega) T.sz3 rfl rfl rfl (Nat.le_of_ble_eq_true rfl) (fun w14 hH15 => ?_)
      refine ops_nil (blk_n (thn_n (region ?_)))
      refine ops_y hH15 rfl rfl (yv_add rfl rfl (by omega)) ?_
      refine ops_y hH15 rfl rfl (yv_move rfl) (ops_nil ?_)
      refine lp_n (k + 1, (o.set ((k : Int)).toNat (S.place l (k : Int))), v_6, lo_6, hi_6) (Sub.cons rfl (Sub.cons rfl (Sub.cons rfl (Sub.cons rfl (Sub.cons rfl (Sub.cons rfl (Sub.cons rfl (Sub.nil _)))))))) ?_ ?_
      · exact ⟨hH15, by omega, (List.length_set).trans hol, placeTo hol (by omega) ho⟩
      · first | (dsimp only; omega) | (show _ < _; omega)
    · skip
      refine cond_f rfl (decide_eq_false hc11) ?_
      refine exit (thn_x (lp_x (blk_here (thn_n (seq (region (ops_y hH10 rfl rfl (yv_move rfl) ?_)))))))
      refine ops_y hH10 rfl rfl (yv_len T.sl22 rfl (h0.now hH10 (n := 1) rfl).is) ?_
      refine op_make T.el22_encI (0 : Int) T.z22_encI rfl rfl rfl hH10 (by omega) (by omega) (fun u16 lo18 hi19 w17 hH20 => ?_)
      refine ops_y hH20 rfl rfl (yv_assign rfl) (ops_nil (thn_n (seq ?_)))
      have hrp2 : (List.replicate ((l.length : Int)).toNat (0 : Int)).length = l.length := by simp
      refine region (ops_y hH20 rfl rfl (yv_move rfl) (ops_y hH20 rfl rfl (yv_move rfl) ?_))
      refine op_copy (n := 0) T.el22_encI rfl rfl rfl hH20 rfl (h0.now hH20 (n := 2) rfl) (by omega) (fun w21 hH22 => ?_)
      refine ops_nil (thn_n (seq (region (ops_y hH22 rfl rfl (yv_assign rfl) (ops_nil (thn_n (seq (seq (region ?_)))))))))
      refine ops_y hH22 rfl rfl (yv_move rfl) ?_
      refine ops_y hH22 rfl rfl (yv_len T.sl22 rfl (h0.now hH22 (n := 2) rfl).is) ?_
      refine ops_y hH22 rfl rfl (yv_move rfl) (ops_nil (thn_n (block ?_)))
      refine loop (S := Nat × List Int × Value × Nat × Nat) (fun (q, o2, v_8, lo_8, hi_8) => [(41, (.int .i64 (q : Int))), (9, (.int .i64 (S.endsTo l q : Int))), (8, v_8), (2, (.pointer none)), (3, (.int .i64 0)), (4, (.int .i64 0)), (6, v_6), (39, v), (40, (.int .i64 (l.length : Int)))]) (fun (q, o2, v_8, lo_8, hi_8) w1 => Heap [ow lo_8 hi_8 3 1 encI v_8 o2, ow lo_6 hi_6 3 1 encI v_6 o, base w] w1 ∧ q ≤ l.length ∧ S.BestI l q o2) (fun (q, o2, v_8, lo_8, hi_8) => l.length - q) (0, (l ++ (List.replicate ((l.length : Int)).toNat (0 : Int)).drop l.length), u16, lo18, hi19) (Sub.cons rfl (Sub.cons rfl (Sub.cons rfl (Sub.cons rfl (Sub.cons rfl (Sub.cons rfl (Sub.cons rfl (Sub.cons rfl (Sub.cons rfl (Sub.nil _)))))))))) ?_ ?_
      · exact ⟨hH22, by omega, S.BestI.start (by simp)⟩
      · rintro ⟨q, o2, v_8, lo_8, hi_8⟩ w23 ⟨hH24, hq, hB⟩
        show Holds _ _ _ _ _ [(41, (.int .i64 (q : Int))), (9, (.int .i64 (S.endsTo l q : Int))), (8, v_8), (2, (.pointer none)), (3, (.int .i64 0)), (4, (.int .i64 0)), (6, v_6), (39, v), (40, (.int .i64 (l.length : Int)))] _ _
        have hob := hB.1
        have hel := S.endsTo_le (k := l) (q := q)
        refine seq (region ?_)
        refine ops_y hH24 rfl rfl (yv_lss rfl rfl) ?_
        refine ops_nil (thn_n (seq ?_))
        by_cases hc25 : (q : Int) < (l.length : Int)
        · skip
          refine cond_t rfl (decide_eq_true hc25) ?_
          refine skip (thn_n (seq (block (seq (region (ops_y hH24 rfl rfl (yv_move rfl) ?_))))))
          refine ops_y hH24 rfl rfl (yv_index T.sl22 rfl rfl (h0.now hH24 (n := 2) rfl).is (by omega)) ?_
          refine ops_y hH24 rfl rfl (yv_load T.one3 rfl (fun _ hw => Rd.at (h0.now hw (n := 2) rfl) (i := (q : Int)) (by omega) (j := 0) rfl)) ?_
          refine ops_y hH24 rfl rfl (yv_assign rfl) (ops_y hH24 rfl rfl (yv_assign rfl) (ops_nil (thn_n (seq (seq (region (ops_y hH24 rfl rfl (yv_move rfl) ?_)))))))
          refine ops_y hH24 rfl rfl (yv_geq rfl rfl) ?_
          refine ops_nil (thn_n ?_)
          by_cases hc26 : 0 ≤ (nth l (q : Int))
          · skip
            have hpos : 0 ≤ nth l (q : Int) := by omega
            have hen := S.endsTo_f hpos
            refine cond_t rfl (decide_eq_true hc26) ?_
            refine exit (thn_x (blk_here (thn_n (region ?_))))
            refine ops_y hH24 rfl rfl (yv_add rfl rfl (by omega)) ?_
            refine ops_y hH24 rfl rfl (yv_move rfl) (ops_nil ?_)
            refine lp_n ((q + 1), o2, v_8, lo_8, hi_8) (Sub.cons rfl (Sub.cons (congrArg (fun z => some (Value.int .i64 z)) (by omega)) (Sub.cons rfl (Sub.cons rfl (Sub.cons rfl (Sub.cons rfl (Sub.cons rfl (Sub.cons rfl (Sub.cons rfl (Sub.nil _)))))))))) ?_ ?_
            · exact ⟨hH24, by omega, hB.skip (by omega) hpos⟩
            · first | (dsimp only; omega) | (show _ < _; omega)
          · skip
            have hneg : nth l (q : Int) < 0 := by omega
            have hen := S.endsTo_t hneg
            refine cond_f rfl (decide_eq_false hc26) ?_
            refine skip (thn_n (seq (region (ops_y hH24 rfl rfl (yv_move rfl) ?_))))
            refine ops_y hH24 rfl rfl (yv_add rfl rfl (by omega)) ?_
            refine ops_y hH24 rfl rfl (yv_assign rfl) (ops_nil (thn_n (seq (region (ops_y hH24 rfl rfl (yv_move rfl) (ops_y hH24 rfl rfl (yv_assign rfl) (ops_nil (thn_n (seq ?_)))))))))
            refine block ?_
            refine loop (S := Int × Nat) (fun (a, j) => [(12, (.int .i64 a)), (2, (.pointer none)), (3, (.int .i64 0)), (4, (.int .i64 0)), (6, v_6), (8, v_8), (9, (.int .i64 ((S.endsTo l q : Int) + 1))), (10, (.int .i64 (q : Int))), (39, v), (40, (.int .i64 (l.length : Int))), (41, (.int .i64 (q : Int)))]) (fun (a, j) w1 => Heap [ow lo_8 hi_8 3 1 encI v_8 o2, ow lo_6 hi_6 3 1 encI v_6 o, base w] w1 ∧ S.Chain l a j ∧ S.it l j a = (q : Int)) (fun (a, j) => l.length - j) ((q : Int), 0) (Sub.cons rfl (Sub.cons rfl (Sub.cons rfl (Sub.cons rfl (Sub.cons rfl (Sub.cons rfl (Sub.cons rfl (Sub.cons rfl (Sub.cons rfl (Sub.cons rfl (Sub.cons rfl (Sub.nil _)))))))))))) ?_ ?_
            · exact ⟨hH24, S.Chain.start (by omega) (by omega), rfl⟩
            · rintro ⟨a, j⟩ w27 ⟨hH28, hC, hI⟩
              show Holds _ _ _ _ _ [(12, (.int .i64 a)), (2, (.pointer none)), (3, (.int .i64 0)), (4, (.int .i64 0)), (6, v_6), (8, v_8), (9, (.int .i64 ((S.endsTo l q : Int) + 1))), (10, (.int .i64 (q : Int))), (39, v), (40, (.int .i64 (l.length : Int))), (41, (.int .i64 (q : Int)))] _ _
              have ha0 := hC.1
              have ha1 := hC.2.1
              have hop : nth o a = S.place l a := by have h9 := ho a.toNat (by omega); rwa [Int.toNat_of_nonneg ha0] at h9
              refine seq (seq (region (ops_y hH28 rfl rfl (yv_move rfl) (ops_y hH28 rfl rfl (yv_move rfl) ?_))))
              refine ops_y hH28 rfl rfl (yv_index T.sl22 rfl rfl (Heap.rdw T.el22_encI hH28 (n := 1) rfl).is (by omega)) ?_
              refine ops_y hH28 rfl rfl (yv_load T.one3 rfl (fun _ hw => Rd.at (Heap.rdw T.el22_encI hw (n := 1) rfl) (i := a) (by omega) (j := 0) rfl)) ?_
              refine ops_y hH28 rfl rfl (yv_geq rfl rfl) ?_
              refine ops_nil (thn_n ?_)
              by_cases hc29 : 0 ≤ (nth o a)
              · skip
                have hpn := S.place_nth (l := l) (x := a) (by omega)
                have hC2 := hC.back (b := nth o a) (by omega) (by omega) (by rw [hop]; exact hpn.2)
                refine cond_t rfl (decide_eq_true hc29) ?_
                refine skip (thn_n (block (region (ops_y hH28 rfl rfl (yv_move rfl) (ops_y hH28 rfl rfl (yv_move rfl) ?_)))))
                refine ops_y hH28 rfl rfl (yv_index T.sl22 rfl rfl (Heap.rdw T.el22_encI hH28 (n := 1) rfl).is (by omega)) ?_
                refine ops_y hH28 rfl rfl (yv_load T.one3 rfl (fun _ hw => Rd.at (Heap.rdw T.el22_encI hw (n := 1) rfl) (i := a) (by omega) (j := 0) rfl)) ?_
                refine ops_y hH28 rfl rfl (yv_assign rfl) (ops_nil (blk_n ?_))
                refine lp_n ((nth o a), (j + 1)) (Sub.cons rfl (Sub.cons rfl (Sub.cons rfl (Sub.cons rfl (Sub.cons rfl (Sub.cons rfl (Sub.cons rfl (Sub.cons rfl (Sub.cons rfl (Sub.cons rfl (Sub.cons rfl (Sub.nil _)))))))))))) ?_ ?_
                · exact ⟨hH28, hC2.1, hC2.2.trans hI⟩
                · (have h9 := S.Chain.lt hr hC2.1 (by rw [hC2.2.trans hI]; exact hneg); dsimp only; omega)
              · skip
                have hbst := hC.done hr hI hneg (S.place_start.1 (by omega))
                refine cond_f rfl (decide_eq_false hc29) ?_
                refine exit (thn_x (lp_x (blk_here (thn_n (region (ops_y hH28 rfl rfl (yv_move rfl) (ops_y hH28 rfl rfl (yv_move rfl) (ops_y hH28 rfl rfl (yv_move rfl) ?_))))))))
                refine ops_y hH28 rfl rfl (yv_index T.sl22 rfl rfl (Heap.rdw T.el22_encI hH28 (n := 0) rfl).is (by omega)) ?_
                refine op_setE (n := 0) (i := (q : Int)) (k := 0) (us := [(.int .i64 a)]) (z := a) T.el22_encI rfl rfl hH28 rfl (by omega) T.sz3 rfl rfl rfl (Nat.le_of_ble_eq_true rfl) (fun w30 hH31 => ?_)
                refine ops_nil (blk_n (thn_n (region ?_)))
                refine ops_y hH31 rfl rfl (yv_add rfl rfl (by omega)) ?_
                refine ops_y hH31 rfl rfl (yv_move rfl) (ops_nil ?_)
                refine lp_n ((q + 1), (o2.set ((q : Int)).toNat a), v_8, lo_8, hi_8) (Sub.cons rfl (Sub.cons (congrArg (fun z => some (Value.int .i64 z)) (by omega)) (Sub.cons rfl (Sub.cons rfl (Sub.cons rfl (Sub.cons rfl (Sub.cons rfl (Sub.cons rfl (Sub.cons rfl (Sub.nil _)))))))))) ?_ ?_
                · exact ⟨hH31, by omega, hB.set (by omega) hneg hbst⟩
                · first | (dsimp only; omega) | (show _ < _; omega)
        · skip
          refine cond_f rfl (decide_eq_false hc25) ?_
          refine exit (thn_x (lp_x (blk_here (thn_n (seq ?_)))))
          have hqe : q = l.length := by omega
          have hbe : o2 = S.best l := by rw [hqe] at hB; exact hB.done
          have hee : S.endsTo l q = (S.ends l).length := by rw [hqe]; rfl
          refine region (ops_y hH24 rfl rfl (yv_move rfl) ?_)
          refine op_fn rfl rfl rfl hH24 (c102 (Heap.rdw T.el22_encI hH24 (n := 0) rfl) (by omega) (by omega)) (fun u34 w32 lo35 hi36 hH33 hv37 => ?_)
          obtain ⟨b38, r39, hu, hb40⟩ := hv37
          subst hu
          obtain ⟨g41, hH42⟩ := Heap.toBench hH33 (n := 0) rfl (fun w' h => by obtain ⟨b1, v1, e, h⟩ := h; cases e; exact ⟨v1, h⟩) hb40 (by omega)
          refine ops_y hH42 rfl rfl (yv_move rfl) (ops_y hH42 rfl rfl (yv_assign rfl) (ops_y hH42 rfl rfl (yv_assign rfl) (ops_y hH42 rfl rfl (yv_assign rfl) (ops_nil (thn_n (ret ?_))))))
          have hH43 := (hH42.sub (List.Sublist.cons_cons _ (List.Sublist.cons_cons _ (List.Sublist.cons _ (List.Sublist.cons _ (List.Sublist.refl _))))))
          refine fin (hH43.front (n := 2) rfl) (fun w' hf => (res3 rfl (show RV _ _ _ (.tmp 2) _ from rfl) (show RV _ _ _ (.tmp 3) _ from rfl) (show RV _ _ _ (.tmp 4) _ from rfl))) (fun w' hf => ?_)
          rw [← hee, ← hbe]
          exact ⟨_, _, rfl, Heap.bench hf (n := 1) (m := 0) rfl rfl (by decide) (by omega)⟩

theorem c99n {v : Value} {l : List Int} {w : World} (h0 : Rd encI 1 v l w) (hn : l.length ≤ 1000000) (hc : ¬ S.check l (-1) = 0)  :
    Fn Try.prog 99 [v].toArray w (fun u _ => u = .tuple #[.pointer none, .int .i64 0, .int .i64 (S.check l (-1))]) := by
  refine fn_of' (args := [v]) Try.func99 rfl (ent Try.func99 (by kernel_rfl) rfl) rfl rfl (fun hH => ?_)
  refine seq (region (ops_y hH rfl rfl (yv_assign rfl) (ops_y hH rfl rfl (yv_assign rfl) (ops_y hH rfl rfl (yv_assign rfl) (ops_nil (thn_n (seq (seq (region ?_)))))))))
  refine ops_y hH rfl rfl (yv_move rfl) ?_
  refine op_fnV rfl rfl rfl hH (c54 (h0.now hH (n := 0) rfl) (by omega)) (fun w1 hH2 => ?_)
  refine ops_y hH2 rfl rfl (yv_assign rfl) (ops_nil (thn_n (seq (region (ops_y hH2 rfl rfl (yv_move rfl) ?_)))))
  refine ops_y hH2 rfl rfl (yv_neq rfl rfl) ?_
  refine ops_nil (thn_n ?_)
  have hc3 : ¬ ((S.check l (-1)) = 0) := hc
  refine cond_t rfl (not_decide_t hc3) ?_
  refine seq (region (ops_y hH2 rfl rfl (yv_move rfl) (ops_y hH2 rfl rfl (yv_assign rfl) (ops_y hH2 rfl rfl (yv_assign rfl) (ops_y hH2 rfl rfl (yv_assign rfl) (ops_nil (thn_n (ret (thn_r ?_)))))))))
  refine fin hH2 (fun w' hf => (res3 rfl (show RV _ _ _ (.tmp 2) _ from rfl) (show RV _ _ _ (.tmp 3) _ from rfl) (show RV _ _ _ (.tmp 4) _ from rfl))) (fun w' hf => ?_)
  rfl

theorem c48 {v : Value} {l : List Int} {w : World} (h0 : Rd encI 1 v l w) (hn : l.length ≤ 1000000)  :
    Fn Try.prog 48 [v].toArray w (fun u w => ∃ q, u = .tuple #[q, .int .i64 (S.bestR l).2] ∧ Own 3 1 encI q (S.bestR l).1 w) := by
  refine fn_of' (args := [v]) Try.func48 rfl (ent Try.func48 (by kernel_rfl) rfl) rfl rfl (fun hH => ?_)
  refine seq (region (ops_y hH rfl rfl (yv_assign rfl) (ops_y hH rfl rfl (yv_assign rfl) (ops_nil (thn_n (seq ?_))))))
  by_cases hc1 : S.check l (-1) = 0
  · skip
    have hc0 : S.check l (-1) = 0 := ‹_›
    have hr : S.Rg l := S.check_iff.1 hc0
    have hj : S.J (S.best l) := S.best_J hr
    have hl1 := hr.1
    have hl10 := hr.2.1
    have hbl := S.best_length (k := l)
    refine region (ops_y hH rfl rfl (yv_move rfl) ?_)
    refine op_fn rfl rfl rfl hH (c99 (h0.now hH (n := 0) rfl) (by omega) hr) (fun u4 w2 lo5 hi6 hH3 hv7 => ?_)
    obtain ⟨b8, r9, hu, hb10⟩ := hv7
    subst hu
    obtain ⟨g11, hH12⟩ := Heap.toBench hH3 (n := 0) rfl (fun w' h => by obtain ⟨b1, v1, e, h⟩ := h; cases e; exact ⟨v1, h⟩) hb10 (by omega)
    refine ops_y hH12 rfl rfl (yv_move rfl) (ops_y hH12 rfl rfl (yv_extract rfl rfl) (ops_y hH12 rfl rfl (yv_extract rfl rfl) (ops_y hH12 rfl rfl (yv_extract rfl rfl) (ops_y hH12 rfl rfl (yv_assign rfl) (ops_y hH12 rfl rfl (yv_assign rfl) (ops_y hH12 rfl rfl (yv_assign rfl) (ops_nil (thn_n (seq ?_)))))))))
    refine seq (region (ops_y hH12 rfl rfl (yv_move rfl) ?_))
    refine ops_y hH12 rfl rfl (yv_neq rfl rfl) ?_
    refine ops_nil (thn_n ?_)
    refine cond_f rfl rfl ?_
    refine skip (thn_n (seq (region (ops_y hH12 rfl rfl (yv_move rfl) ?_))))
    refine ops_y hH12 rfl rfl (yv_nilck rfl) ?_
    refine ops_y hH12 rfl rfl (yv_field T.f89_0 rfl) ?_
    refine ops_y hH12 rfl rfl (yv_field T.f87_0 rfl) ?_
    refine ops_y hH12 rfl rfl (yv_load T.one22 rfl (fun _ hw => Heap.cellw hw (n := 1) rfl rfl)) ?_
    refine ops_y hH12 rfl rfl (yv_assign rfl) (ops_y hH12 rfl rfl (yv_assign rfl) (ops_nil (thn_n (ret ?_))))
    have hH13 := (hH12.sub (List.Sublist.cons_cons _ (List.Sublist.cons _ (List.Sublist.refl _))))
    refine fin (hH13.front (n := 1) rfl) (fun w' hf => (res2 rfl (show RV _ _ _ (.tmp 2) _ from rfl) (show RV _ _ _ (.tmp 3) _ from rfl))) (fun w' hf => ?_)
    first | (rw [S.br1 hcn]; exact ⟨_, rfl, own_nil⟩) | (rw [S.br2 hc0]; exact ⟨_, rfl, Heap.own hf (n := 0) rfl⟩)
  · skip
    have hcn : ¬ S.check l (-1) = 0 := ‹_›
    refine region (ops_y hH rfl rfl (yv_move rfl) ?_)
    refine op_fnV rfl rfl rfl hH (c99n (h0.now hH (n := 0) rfl) (by omega) hcn) (fun w14 hH15 => ?_)
    refine ops_y hH15 rfl rfl (yv_move rfl) (ops_y hH15 rfl rfl (yv_extract rfl rfl) (ops_y hH15 rfl rfl (yv_extract rfl rfl) (ops_y hH15 rfl rfl (yv_extract rfl rfl) (ops_y hH15 rfl rfl (yv_assign rfl) (ops_y hH15 rfl rfl (yv_assign rfl) (ops_y hH15 rfl rfl (yv_assign rfl) (ops_nil (thn_n (seq ?_)))))))))
    refine seq (region (ops_y hH15 rfl rfl (yv_move rfl) ?_))
    refine ops_y hH15 rfl rfl (yv_neq rfl rfl) ?_
    refine ops_nil (thn_n ?_)
    have hc16 : ¬ ((S.check l (-1)) = 0) := hcn
    refine cond_t rfl (not_decide_t hc16) ?_
    refine seq (region (ops_y hH15 rfl rfl (yv_move rfl) (ops_y hH15 rfl rfl (yv_assign rfl) (ops_y hH15 rfl rfl (yv_assign rfl) (ops_nil (thn_n (ret (thn_r ?_))))))))
    refine fin hH15 (fun w' hf => (res2 rfl (show RV _ _ _ (.tmp 2) _ from rfl) (show RV _ _ _ (.tmp 3) _ from rfl))) (fun w' hf => ?_)
    first | (rw [S.br1 hcn]; exact ⟨_, rfl, own_nil⟩) | (rw [S.br2 hc0]; exact ⟨_, rfl, Heap.own hf (n := 0) rfl⟩)

theorem c50 {v : Value} {l : List Int} {w : World} (h0 : Rd encI 1 v l w) (hn : l.length ≤ 1000000)  :
    Fn Try.prog 50 [v].toArray w (fun u _ => u = .tuple #[.agg #[.int .i64 (S.spanR l).1.1, .int .i64 (S.spanR l).1.2], .int .i64 (S.spanR l).2]) := by
  refine fn_of' (args := [v]) Try.func50 rfl (ent Try.func50 (by kernel_rfl) rfl) rfl rfl (fun hH => ?_)
  refine seq (region ?_)
  refine op_alloc (z := (.agg #[(.int .i64 0), (.int .i64 0)])) (us := [(.int .i64 0), (.int .i64 0)]) (fun _ => by kernel_rfl) rfl rfl hH (fun b1 w2 hH3 => ?_)
  refine ops_y hH3 rfl rfl (yv_assign rfl) (ops_nil (thn_n (seq ?_)))
  by_cases hc4 : S.check l (-1) = 0
  · skip
    have hc0 : S.check l (-1) = 0 := ‹_›
    have hr : S.Rg l := S.check_iff.1 hc0
    have hj : S.J (S.best l) := S.best_J hr
    have hl1 := hr.1
    have hl10 := hr.2.1
    have hbl := S.best_length (k := l)
    refine region (ops_y hH3 rfl rfl (yv_move rfl) ?_)
    refine op_fn rfl rfl rfl hH3 (c99 (h0.now hH3 (n := 1) rfl) (by omega) hr) (fun u7 w5 lo8 hi9 hH6 hv10 => ?_)
    obtain ⟨b11, r12, hu, hb13⟩ := hv10
    subst hu
    obtain ⟨g14, hH15⟩ := Heap.toBench hH6 (n := 0) rfl (fun w' h => by obtain ⟨b1, v1, e, h⟩ := h; cases e; exact ⟨v1, h⟩) hb13 (by omega)
    refine ops_y hH15 rfl rfl (yv_move rfl) (ops_y hH15 rfl rfl (yv_extract rfl rfl) (ops_y hH15 rfl rfl (yv_extract rfl rfl) (ops_y hH15 rfl rfl (yv_extract rfl rfl) (ops_y hH15 rfl rfl (yv_assign rfl) (ops_y hH15 rfl rfl (yv_assign rfl) (ops_y hH15 rfl rfl (yv_assign rfl) (ops_nil (thn_n (seq ?_)))))))))
    refine seq (region (ops_y hH15 rfl rfl (yv_move rfl) ?_))
    refine ops_y hH15 rfl rfl (yv_neq rfl rfl) ?_
    refine ops_nil (thn_n ?_)
    refine cond_f rfl rfl ?_
    refine skip (thn_n (seq ?_))
    have hxl := (S.J.exs_ok _ hj rfl).1
    have hcy := hj.cyc_le
    have hel := S.ends_le (k := l)
    have hlo : S.spanLo l = ((S.exs (S.best l)).length : Int) := by unfold S.spanLo; omega
    have hhi : S.spanHi l = ((S.exs (S.best l)).length : Int) + max 1 ((S.ends l).length : Int) - 1 := by unfold S.spanHi; rw [hlo]; omega
    refine region (ops_y hH15 rfl rfl (yv_move rfl) ?_)
    refine op_fn rfl rfl rfl hH15 (c84 (Heap.bxw hH15 (n := 1) rfl) (Heap.rdw T.el22_encI hH15 (n := 0) rfl) hj) (fun u18 w16 lo19 hi20 hH17 hv21 => ?_)
    have hH22 := Heap.toOw hH17 (n := 0) rfl
    refine ops_y hH22 rfl rfl (yv_len T.sl29 rfl (Heap.rdw T.el29_encP hH22 (n := 0) rfl).is) ?_
    refine ops_y hH22 rfl rfl (yv_assign rfl) (ops_nil (thn_n (seq (region (ops_y hH22 rfl rfl (yv_move rfl) (ops_y hH22 rfl rfl (yv_move rfl) (ops_y hH22 rfl rfl (yv_move rfl) ?_)))))))
    refine ops_y hH22 rfl rfl (yv_max rfl rfl) ?_
    refine ops_y hH22 rfl rfl (yv_add rfl rfl (by omega)) ?_
    refine ops_y hH22 rfl rfl (yv_sub rfl rfl (by omega)) ?_
    refine ops_y hH22 rfl rfl (yv_build (v := (.agg #[(.int .i64 ((S.exs (S.best l)).length : Int)), (.int .i64 ((((S.exs (S.best l)).length : Int) + (max 1 ((S.ends l).length : Int))) - 1))])) (us := [(0, (.int .i64 ((S.exs (S.best l)).length : Int))), (1, (.int .i64 ((((S.exs (S.best l)).length : Int) + (max 1 ((S.ends l).length : Int))) - 1)))]) (fun a ha => by simp [ha.ev (show ev _ (.tmp 21) = some _ from rfl), ha.ev (show ev _ (.tmp 26) = some _ from rfl)]) (fun w => by kernel_rfl)) ?_
    refine op_store (n := 3) (j := 0) (us := [(.int .i64 ((S.exs (S.best l)).length : Int)), (.int .i64 ((((S.exs (S.best l)).length : Int) + (max 1 ((S.ends l).length : Int))) - 1))]) rfl rfl hH22 rfl T.sz50 rfl rfl rfl (by rfl) (fun w23 hH24 => ?_)
    refine ops_y hH24 rfl rfl (yv_assign rfl) (ops_nil (thn_n (ret ?_)))
    have hH25 := (hH24.sub (List.Sublist.cons _ (List.Sublist.cons _ (List.Sublist.cons _ (List.Sublist.refl _)))))
    refine fin (hH25.front (n := 1) rfl) (fun w' hf => (res2 rfl (rvA (cs := [(.int .i64 ((S.exs (S.best l)).length : Int)), (.int .i64 ((((S.exs (S.best l)).length : Int) + (max 1 ((S.ends l).length : Int))) - 1))]) rfl T.agg50 rfl (bx_cells (Heap.bxw hf (n := 1) rfl) (k := 0) rfl)) (show RV _ _ _ (.tmp 3) _ from rfl))) (fun w' hf => ?_)
    first | exact tspan (S.sr1 hcn) | (refine tspan ((S.sr2 hc0).trans ?_); rw [hlo, hhi])
  · skip
    have hcn : ¬ S.check l (-1) = 0 := ‹_›
    refine region (ops_y hH3 rfl rfl (yv_move rfl) ?_)
    refine op_fnV rfl rfl rfl hH3 (c99n (h0.now hH3 (n := 1) rfl) (by omega) hcn) (fun w26 hH27 => ?_)
    refine ops_y hH27 rfl rfl (yv_move rfl) (ops_y hH27 rfl rfl (yv_extract rfl rfl) (ops_y hH27 rfl rfl (yv_extract rfl rfl) (ops_y hH27 rfl rfl (yv_extract rfl rfl) (ops_y hH27 rfl rfl (yv_assign rfl) (ops_y hH27 rfl rfl (yv_assign rfl) (ops_y hH27 rfl rfl (yv_assign rfl) (ops_nil (thn_n (seq ?_)))))))))
    refine seq (region (ops_y hH27 rfl rfl (yv_move rfl) ?_))
    refine ops_y hH27 rfl rfl (yv_neq rfl rfl) ?_
    refine ops_nil (thn_n ?_)
    have hc28 : ¬ ((S.check l (-1)) = 0) := hcn
    refine cond_t rfl (not_decide_t hc28) ?_
    refine seq (region ?_)
    refine ops_y hH27 rfl rfl (yv_build (v := (.agg #[(.int .i64 0), (.int .i64 0)])) (us := []) (fun a ha => by simp []) (fun w => by kernel_rfl)) ?_
    refine ops_y hH27 rfl rfl (yv_move rfl) ?_
    refine op_store (n := 0) (j := 0) (us := [(.int .i64 0), (.int .i64 0)]) rfl rfl hH27 rfl T.sz50 rfl rfl rfl (by rfl) (fun w29 hH30 => ?_)
    refine ops_y hH30 rfl rfl (yv_assign rfl) (ops_nil (thn_n (ret (thn_r ?_))))
    refine fin (hH30.front (n := 1) rfl) (fun w' hf => (res2 rfl (rvA (cs := [(.int .i64 0), (.int .i64 0)]) rfl T.agg50 rfl (bx_cells (Heap.bxw hf (n := 1) rfl) (k := 0) rfl)) (show RV _ _ _ (.tmp 3) _ from rfl))) (fun w' hf => ?_)
    first | exact tspan (S.sr1 hcn) | (refine tspan ((S.sr2 hc0).trans ?_); rw [hlo, hhi])

theorem c52 {v : Value} {l : List Int} {w : World} (h0 : Rd encI 1 v l w) (hn : l.length ≤ 1000000)  :
    Fn Try.prog 52 [v].toArray w (fun u _ => u = .tuple #[.int .i64 (S.countR l).1, .int .i64 (S.countR l).2]) := by
  refine fn_of' (args := [v]) Try.func52 rfl (ent Try.func52 (by kernel_rfl) rfl) rfl rfl (fun hH => ?_)
  refine seq (region (ops_y hH rfl rfl (yv_assign rfl) (ops_y hH rfl rfl (yv_assign rfl) (ops_nil (thn_n (seq ?_))))))
  by_cases hc1 : S.check l (-1) = 0
  · skip
    have hc0 : S.check l (-1) = 0 := ‹_›
    have hr : S.Rg l := S.check_iff.1 hc0
    have hj : S.J (S.best l) := S.best_J hr
    have hl1 := hr.1
    have hl10 := hr.2.1
    have hbl := S.best_length (k := l)
    refine region (ops_y hH rfl rfl (yv_move rfl) ?_)
    refine op_fn rfl rfl rfl hH (c99 (h0.now hH (n := 0) rfl) (by omega) hr) (fun u4 w2 lo5 hi6 hH3 hv7 => ?_)
    obtain ⟨b8, r9, hu, hb10⟩ := hv7
    subst hu
    obtain ⟨g11, hH12⟩ := Heap.toBench hH3 (n := 0) rfl (fun w' h => by obtain ⟨b1, v1, e, h⟩ := h; cases e; exact ⟨v1, h⟩) hb10 (by omega)
    refine ops_y hH12 rfl rfl (yv_move rfl) (ops_y hH12 rfl rfl (yv_extract rfl rfl) (ops_y hH12 rfl rfl (yv_extract rfl rfl) (ops_y hH12 rfl rfl (yv_extract rfl rfl) (ops_y hH12 rfl rfl (yv_assign rfl) (ops_y hH12 rfl rfl (yv_assign rfl) (ops_y hH12 rfl rfl (yv_assign rfl) (ops_nil (thn_n (seq ?_)))))))))
    refine seq (region (ops_y hH12 rfl rfl (yv_move rfl) ?_))
    refine ops_y hH12 rfl rfl (yv_neq rfl rfl) ?_
    refine ops_nil (thn_n ?_)
    refine cond_f rfl rfl ?_
    refine skip (thn_n (seq ?_))
    have hel := S.ends_le (k := l)
    refine region (ops_y hH12 rfl rfl (yv_assign rfl) (ops_nil (thn_n (seq (seq (region (ops_y hH12 rfl rfl (yv_move rfl) (ops_y hH12 rfl rfl (yv_move rfl) (ops_nil ?_)))))))))
    refine thn_n (block ?_)
    refine loop (S := Nat) (fun k => [(7, (.int .i64 (S.fact k : Int))), (19, (.int .i64 (k : Int))), (2, (.int .i64 0)), (3, (.int .i64 0)), (18, (.int .i64 ((S.ends l).length : Int)))]) (fun k w1 => Heap [ow g11 (g11 + 1) 3 1 encI r9 (S.best l), bx b8 89 [r9], base w] w1 ∧ k ≤ (S.ends l).length) (fun k => (S.ends l).length - k) (0) (Sub.cons rfl (Sub.cons rfl (Sub.cons rfl (Sub.cons rfl (Sub.cons rfl (Sub.nil _)))))) ?_ ?_
    · exact ⟨hH12, by omega⟩
    · rintro k w13 ⟨hH14, hk⟩
      show Holds _ _ _ _ _ [(7, (.int .i64 (S.fact k : Int))), (19, (.int .i64 (k : Int))), (2, (.int .i64 0)), (3, (.int .i64 0)), (18, (.int .i64 ((S.ends l).length : Int)))] _ _
      have hfc := fact_cast (k := k)
      refine seq (region ?_)
      refine ops_y hH14 rfl rfl (yv_lss rfl rfl) ?_
      refine ops_nil (thn_n (seq ?_))
      by_cases hc15 : (k : Int) < ((S.ends l).length : Int)
      · skip
        refine cond_t rfl (decide_eq_true hc15) ?_
        refine skip (thn_n (seq (block (seq (region (ops_y hH14 rfl rfl (yv_move rfl) (ops_y hH14 rfl rfl (yv_assign rfl) (ops_nil (thn_n ?_)))))))))
        have hfl := fact_le (k := k + 1) (by omega)
        refine region (ops_y hH14 rfl rfl (yv_move rfl) (ops_y hH14 rfl rfl (yv_move rfl) ?_))
        refine ops_y hH14 rfl rfl (yv_add rfl rfl (by omega)) ?_
        refine ops_y hH14 rfl rfl (yv_mul rfl rfl (by omega)) ?_
        refine ops_y hH14 rfl rfl (yv_assign rfl) (ops_nil (blk_n (thn_n (region ?_))))
        refine ops_y hH14 rfl rfl (yv_add rfl rfl (by omega)) ?_
        refine ops_y hH14 rfl rfl (yv_move rfl) (ops_nil ?_)
        refine lp_n (k + 1) (Sub.cons (congrArg (fun z => some (Value.int .i64 z)) fact_cast) (Sub.cons rfl (Sub.cons rfl (Sub.cons rfl (Sub.cons rfl (Sub.nil _)))))) ?_ ?_
        · exact ⟨hH14, by omega⟩
        · first | (dsimp only; omega) | (show _ < _; omega)
      · skip
        refine cond_f rfl (decide_eq_false hc15) ?_
        refine exit (thn_x (lp_x (blk_here (thn_n (seq (region (ops_y hH14 rfl rfl (yv_move rfl) (ops_y hH14 rfl rfl (yv_assign rfl) (ops_y hH14 rfl rfl (yv_assign rfl) ?_)))))))))
        refine ops_nil (thn_n (ret ?_))
        have hH16 := (hH14.sub (List.Sublist.cons _ (List.Sublist.cons _ (List.Sublist.refl _))))
        refine fin hH16 (fun w' hf => (res2 rfl (show RV _ _ _ (.tmp 2) _ from rfl) (show RV _ _ _ (.tmp 3) _ from rfl))) (fun w' hf => ?_)
        first | exact tup2 (S.cr1 hcn) | (have hk2 : k = (S.ends l).length := (by omega); subst hk2; exact tup2 (S.cr2 hc0))
  · skip
    have hcn : ¬ S.check l (-1) = 0 := ‹_›
    refine region (ops_y hH rfl rfl (yv_move rfl) ?_)
    refine op_fnV rfl rfl rfl hH (c99n (h0.now hH (n := 0) rfl) (by omega) hcn) (fun w17 hH18 => ?_)
    refine ops_y hH18 rfl rfl (yv_move rfl) (ops_y hH18 rfl rfl (yv_extract rfl rfl) (ops_y hH18 rfl rfl (yv_extract rfl rfl) (ops_y hH18 rfl rfl (yv_extract rfl rfl) (ops_y hH18 rfl rfl (yv_assign rfl) (ops_y hH18 rfl rfl (yv_assign rfl) (ops_y hH18 rfl rfl (yv_assign rfl) (ops_nil (thn_n (seq ?_)))))))))
    refine seq (region (ops_y hH18 rfl rfl (yv_move rfl) ?_))
    refine ops_y hH18 rfl rfl (yv_neq rfl rfl) ?_
    refine ops_nil (thn_n ?_)
    have hc19 : ¬ ((S.check l (-1)) = 0) := hcn
    refine cond_t rfl (not_decide_t hc19) ?_
    refine seq (region (ops_y hH18 rfl rfl (yv_move rfl) (ops_y hH18 rfl rfl (yv_assign rfl) (ops_y hH18 rfl rfl (yv_assign rfl) (ops_nil (thn_n (ret (thn_r ?_))))))))
    refine fin hH18 (fun w' hf => (res2 rfl (show RV _ _ _ (.tmp 2) _ from rfl) (show RV _ _ _ (.tmp 3) _ from rfl))) (fun w' hf => ?_)
    first | exact tup2 (S.cr1 hcn) | (have hk2 : k = (S.ends l).length := (by omega); subst hk2; exact tup2 (S.cr2 hc0))

theorem c101 {v : Value} {l : List Int} {w : World} (h0 : Rd encI 1 v l w) (hn : l.length ≤ 1000000) (hr : S.Rg l)  :
    Fn Try.prog 101 [v].toArray w (fun u w => ∃ TT, RowsAt u TT (S.paths l) w) := by
  refine fn_of' (args := [v]) Try.func101 rfl (ent Try.func101 (by kernel_rfl) rfl) rfl rfl (fun hH => ?_)
  have hl10 := hr.2.1
  refine seq (region (ops_y hH rfl rfl (yv_assign rfl) (ops_nil (thn_n (seq (region (ops_y hH rfl rfl (yv_assign rfl) (ops_nil (thn_n ?_)))))))))
  refine seq (seq (region (ops_y hH rfl rfl (yv_assign rfl) (ops_nil (thn_n (block ?_))))))
  have hH1 := ow_nil (enc := encS) 22 1 hH
  refine loop (S := Nat × List RwI × Value × Nat × Nat) (fun (k, Rs, v_3, lo_3, hi_3) => [(4, (.int .i64 (k : Int))), (3, v_3), (0, v), (2, (.slice none 0 0))]) (fun (k, Rs, v_3, lo_3, hi_3) w1 => Heap ([ow lo_3 hi_3 22 1 encS v_3 (Rs.map (·.s)), base w] ++ Rs.map rowI) w1 ∧ k ≤ l.length ∧ Rs.map (·.l) = S.startsTo l k) (fun (k, Rs, v_3, lo_3, hi_3) => l.length - k) (0, [], (.slice none 0 0), w.heap.size, w.heap.size) (Sub.cons rfl (Sub.cons rfl (Sub.cons rfl (Sub.cons rfl (Sub.nil _))))) ?_ ?_
  · exact ⟨(Heap.recast (n := 0) hH1 rfl (rfl)), by omega, rfl⟩
  · rintro ⟨k, Rs, v_3, lo_3, hi_3⟩ w2 ⟨hH3, hk, hR⟩
    show Holds _ _ _ _ _ [(4, (.int .i64 (k : Int))), (3, v_3), (0, v), (2, (.slice none 0 0))] _ _
    have hRl : (Rs.map (·.s)).length ≤ k := by have h1 := congrArg List.length hR; have h2 := S.startsTo_len (k := l) (q := k); simp at h1 ⊢; omega
    refine seq (seq (region (ops_y hH3 rfl rfl (yv_move rfl) (ops_y hH3 rfl rfl (yv_move rfl) ?_))))
    refine ops_y hH3 rfl rfl (yv_len T.sl22 rfl (h0.now hH3 (n := 1) rfl).is) ?_
    refine ops_y hH3 rfl rfl (yv_lss rfl rfl) ?_
    refine ops_nil (thn_n ?_)
    by_cases hc4 : (k : Int) < (l.length : Int)
    · skip
      refine cond_t rfl (decide_eq_true hc4) ?_
      refine skip (thn_n (seq (block (seq (region (ops_y hH3 rfl rfl (yv_assign rfl) (ops_nil (thn_n (seq ?_)))))))))
      refine seq (region (ops_y hH3 rfl rfl (yv_assign rfl) (ops_nil (thn_n (block ?_)))))
      refine loop (S := Nat × Bool) (fun (j, led) => [(5, (.bool led)), (6, (.int .i64 (j : Int))), (0, v), (2, (.slice none 0 0)), (3, v_3), (4, (.int .i64 (k : Int)))]) (fun (j, led) w1 => Heap ([ow lo_3 hi_3 22 1 encS v_3 (Rs.map (·.s)), base w] ++ Rs.map rowI) w1 ∧ j ≤ l.length ∧ (led = true ↔ ∃ t, t < j ∧ (fun t : Nat => nth l (t : Int) = (k : Int)) t)) (fun (j, led) => l.length - j) (0, false) (Sub.cons rfl (Sub.cons rfl (Sub.cons rfl (Sub.cons rfl (Sub.cons rfl (Sub.cons rfl (Sub.nil _))))))) ?_ ?_
      · exact ⟨hH3, by omega, ⟨(fun h => by cases h), fun ⟨t, ht, _⟩ => absurd ht (Nat.not_lt_zero _)⟩⟩
      · rintro ⟨j, led⟩ w5 ⟨hH6, hjl, hled⟩
        show Holds _ _ _ _ _ [(5, (.bool led)), (6, (.int .i64 (j : Int))), (0, v), (2, (.slice none 0 0)), (3, v_3), (4, (.int .i64 (k : Int)))] _ _
        refine seq (seq (region (ops_y hH6 rfl rfl (yv_move rfl) (ops_y hH6 rfl rfl (yv_move rfl) ?_))))
        refine ops_y hH6 rfl rfl (yv_len T.sl22 rfl (h0.now hH6 (n := 1) rfl).is) ?_
        refine ops_y hH6 rfl rfl (yv_lss rfl rfl) ?_
        refine ops_nil (thn_n ?_)
        by_cases hc7 : (j : Int) < (l.length : Int)
        · skip
          refine cond_t rfl (decide_eq_true hc7) ?_
          refine skip (thn_n (seq (block (region (ops_y hH6 rfl rfl (yv_move rfl) (ops_y hH6 rfl rfl (yv_move rfl) ?_))))))
          by_cases hc8 : led = true
          · skip
            have hlt : led = true := hc8
            refine guard_no rfl rfl hc8 rfl ?_
            refine guard_no rfl rfl hc8 rfl ?_
            refine guard_no rfl rfl hc8 rfl ?_
            refine guard_no rfl rfl hc8 rfl ?_
            refine guard_no rfl rfl hc8 rfl ?_
            refine guard_no rfl rfl hc8 rfl ?_
            refine ops_y hH6 rfl rfl (yv_pick_t rfl hc8 rfl) ?_
            refine ops_y hH6 rfl rfl (yv_assign rfl) (ops_nil (blk_n (thn_n (region (ops_y hH6 rfl rfl (yv_move rfl) ?_)))))
            refine ops_y hH6 rfl rfl (yv_add rfl rfl (by omega)) ?_
            refine ops_y hH6 rfl rfl (yv_assign rfl) (ops_nil ?_)
            refine lp_n (j + 1, true) (Sub.cons rfl (Sub.cons rfl (Sub.cons rfl (Sub.cons rfl (Sub.cons rfl (Sub.cons rfl (Sub.nil _))))))) ?_ ?_
            · exact ⟨hH6, by omega, led_step hled ⟨fun _ => .inl hlt, fun _ => rfl⟩⟩
            · first | (dsimp only; omega) | (show _ < _; omega)
          · skip
            have hlf : ¬ led = true := by rw [(Bool.eq_false_iff.2 hc8)]; decide
            refine guard_yes rfl rfl (Bool.eq_false_iff.2 hc8) ?_
            refine ops_y hH6 rfl rfl (yv_move rfl) ?_
            refine guard_yes rfl rfl (Bool.eq_false_iff.2 hc8) ?_
            refine ops_y hH6 rfl rfl (yv_move rfl) ?_
            refine guard_yes rfl rfl (Bool.eq_false_iff.2 hc8) ?_
            refine ops_y hH6 rfl rfl (yv_index T.sl22 rfl rfl (h0.now hH6 (n := 1) rfl).is (by omega)) ?_
            refine guard_yes rfl rfl (Bool.eq_false_iff.2 hc8) ?_
            refine ops_y hH6 rfl rfl (yv_load T.one3 rfl (fun _ hw => Rd.at (h0.now hw (n := 1) rfl) (i := (j : Int)) (by omega) (j := 0) rfl)) ?_
            refine guard_yes rfl rfl (Bool.eq_false_iff.2 hc8) ?_
            refine ops_y hH6 rfl rfl (yv_move rfl) ?_
            refine guard_yes rfl rfl (Bool.eq_false_iff.2 hc8) ?_
            refine ops_y hH6 rfl rfl (yv_eql rfl rfl) ?_
            refine ops_y hH6 rfl rfl (yv_pick_f rfl (Bool.eq_false_iff.2 hc8) rfl) ?_
            refine ops_y hH6 rfl rfl (yv_assign rfl) (ops_nil (blk_n (thn_n (region (ops_y hH6 rfl rfl (yv_move rfl) ?_)))))
            refine ops_y hH6 rfl rfl (yv_add rfl rfl (by omega)) ?_
            refine ops_y hH6 rfl rfl (yv_assign rfl) (ops_nil ?_)
            refine lp_n (j + 1, (decide ((nth l (j : Int)) = (k : Int)))) (Sub.cons rfl (Sub.cons rfl (Sub.cons rfl (Sub.cons rfl (Sub.cons rfl (Sub.cons rfl (Sub.nil _))))))) ?_ ?_
            · exact ⟨hH6, by omega, led_step hled ⟨fun h => .inr (of_decide_eq_true h), fun h => by rcases h with h | h; exact absurd h hlf; exact decide_eq_true h⟩⟩
            · first | (dsimp only; omega) | (show _ < _; omega)
        · skip
          refine cond_f rfl (decide_eq_false hc7) ?_
          refine exit (thn_x (lp_x (blk_here (thn_n (seq (seq (region (ops_y hH6 rfl rfl (yv_move rfl) (ops_nil ?_)))))))))
          refine thn_n ?_
          by_cases hc9 : led = true
          · skip
            have hst2 : ¬ S.isStart l (k : Int) = true := fun h => by
              obtain ⟨t, ht, he⟩ := hled.1 hc9
              exact S.isStart_iff.1 h _ (by omega) (by omega) he
            refine cond_t rfl hc9 ?_
            refine exit (thn_x (blk_here (thn_n (region (ops_y hH6 rfl rfl (yv_move rfl) ?_)))))
            refine ops_y hH6 rfl rfl (yv_add rfl rfl (by omega)) ?_
            refine ops_y hH6 rfl rfl (yv_assign rfl) (ops_nil ?_)
            refine lp_n (k + 1, Rs, v_3, lo_3, hi_3) (Sub.cons rfl (Sub.cons rfl (Sub.cons rfl (Sub.cons rfl (Sub.nil _))))) ?_ ?_
            · exact ⟨(Heap.recast (n := 0) hH6 rfl (by first | exact hd_snoc rfl | rfl)), by omega, hR.trans (S.startsTo_f hst2).symm⟩
            · first | (dsimp only; omega) | (show _ < _; omega)
          · skip
            have hst : S.isStart l (k : Int) = true := S.isStart_iff.2 (fun y y0 y1 e => absurd (hled.2 ⟨y.toNat, by omega, by show nth l ((y.toNat : Nat) : Int) = _; rw [Int.toNat_of_nonneg y0]; exact e⟩) (by rw [(Bool.eq_false_iff.2 hc9)]; decide))
            obtain ⟨hfl, hfe, hfc⟩ := S.flen_spec hr (s := (k : Int)) (by omega) (by omega) hst
            refine cond_f rfl (Bool.eq_false_iff.2 hc9) ?_
            refine skip (thn_n (seq (region (ops_y hH6 rfl rfl (yv_move rfl) ?_))))
            refine op_lit (us := [(0, (.int .i64 (k : Int)))]) T.el22_encI [(k : Int)] rfl (by decide) rfl (fun a ha => by simp [ha.ev (show ev _ (.tmp 31) = some _ from rfl)]) (fun w => by kernel_rfl) hH6 (fun u10 lo12 hi13 w11 hH14 => ?_)
            refine ops_y hH14 rfl rfl (yv_assign rfl) (ops_nil (thn_n (seq (seq (region (ops_y hH14 rfl rfl (yv_move rfl) (ops_y hH14 rfl rfl (yv_move rfl) ?_)))))))
            refine ops_y hH14 rfl rfl (yv_index T.sl22 rfl rfl (h0.now hH14 (n := 2) rfl).is (by omega)) ?_
            refine ops_y hH14 rfl rfl (yv_load T.one3 rfl (fun _ hw => Rd.at (h0.now hw (n := 2) rfl) (i := (k : Int)) (by omega) (j := 0) rfl)) ?_
            refine ops_y hH14 rfl rfl (yv_assign rfl) (ops_nil (thn_n (block ?_)))
            refine loop (S := Nat × Value × Nat × Nat) (fun (j, v_7, lo_7, hi_7) => [(8, (.int .i64 (S.it l (j + 1) (k : Int)))), (7, v_7), (0, v), (2, (.slice none 0 0)), (3, v_3), (4, (.int .i64 (k : Int)))]) (fun (j, v_7, lo_7, hi_7) w1 => Heap ([ow lo_7 hi_7 3 1 encI v_7 (S.pathTo l (k : Int) (j + 1)), ow lo_3 hi_3 22 1 encS v_3 (Rs.map (·.s)), base w] ++ Rs.map rowI) w1 ∧ j ≤ S.flen l (k : Int)) (fun (j, v_7, lo_7, hi_7) => S.flen l (k : Int) - j) (0, u10, lo12, hi13) (Sub.cons rfl (Sub.cons rfl (Sub.cons rfl (Sub.cons rfl (Sub.cons rfl (Sub.cons rfl (Sub.nil _))))))) ?_ ?_
            · exact ⟨(Heap.recast (n := 0) hH14 rfl (rfl)), by omega⟩
            · rintro ⟨j, v_7, lo_7, hi_7⟩ w15 ⟨hH16, hjf⟩
              show Holds _ _ _ _ _ [(8, (.int .i64 (S.it l (j + 1) (k : Int)))), (7, v_7), (0, v), (2, (.slice none 0 0)), (3, v_3), (4, (.int .i64 (k : Int)))] _ _
              have hpl := S.pathTo_length (k := l) (s := (k : Int)) (j := j + 1)
              have hat := S.Chain.at hr hfc j hjf
              have hnn := hr.nth hat.1 hat.2
              have hie : S.it l (j + 1) (k : Int) = nth l (S.it l j (k : Int)) := rfl
              have hst3 : j < S.flen l (k : Int) → 0 ≤ S.it l (j + 1) (k : Int) := fun h => hfc.2.2 j h
              have hst4 : j = S.flen l (k : Int) → S.it l (j + 1) (k : Int) < 0 := fun h => by rw [h]; exact hfe
              refine seq (seq (region (ops_y hH16 rfl rfl (yv_move rfl) ?_)))
              refine ops_y hH16 rfl rfl (yv_geq rfl rfl) ?_
              refine ops_nil (thn_n ?_)
              by_cases hc17 : 0 ≤ (S.it l (j + 1) (k : Int))
              · skip
                have hjl : j < S.flen l (k : Int) := by omega
                have hat2 := S.Chain.at hr hfc (j + 1) (by omega)
                refine cond_t rfl (decide_eq_true hc17) ?_
                refine skip (thn_n (seq (block (region (ops_y hH16 rfl rfl (yv_move rfl) (ops_y hH16 rfl rfl (yv_move rfl) ?_))))))
                refine op_lit (us := [(0, (.int .i64 (S.it l (j + 1) (k : Int))))]) T.el22_encI [(S.it l (j + 1) (k : Int))] rfl (by decide) rfl (fun a ha => by simp [ha.ev (show ev _ (.tmp 44) = some _ from rfl)]) (fun w => by kernel_rfl) hH16 (fun u18 lo20 hi21 w19 hH22 => ?_)
                refine op_append (n := 1) T.el22_encI rfl rfl rfl hH22 rfl (Heap.rdw T.el22_encI hH22 (n := 0) rfl) (by first | omega | (simp only [List.length_append, List.length_cons, List.length_nil]; omega)) (fun u23 lo25 hi26 w24 hH27 => ?_)
                refine ops_y hH27 rfl rfl (yv_assign rfl) (ops_nil (blk_n (thn_n (region (ops_y hH27 rfl rfl (yv_move rfl) (ops_y hH27 rfl rfl (yv_move rfl) ?_))))))
                refine ops_y hH27 rfl rfl (yv_index T.sl22 rfl rfl (h0.now hH27 (n := 3) rfl).is (by omega)) ?_
                refine ops_y hH27 rfl rfl (yv_load T.one3 rfl (fun _ hw => Rd.at (h0.now hw (n := 3) rfl) (i := (S.it l (j + 1) (k : Int))) (by omega) (j := 0) rfl)) ?_
                refine ops_y hH27 rfl rfl (yv_assign rfl) (ops_nil ?_)
                have hH28 := (hH27.sub (List.Sublist.cons _ (List.Sublist.refl _)))
                refine lp_n (j + 1, u23, lo25, hi26) (Sub.cons rfl (Sub.cons rfl (Sub.cons rfl (Sub.cons rfl (Sub.cons rfl (Sub.cons rfl (Sub.nil _))))))) ?_ ?_
                · exact ⟨(Heap.recast (n := 0) hH28 rfl (S.pathTo_succ.symm)), by omega⟩
                · first | (dsimp only; omega) | (show _ < _; omega)
              · skip
                have hjl : j = S.flen l (k : Int) := by omega
                have hpe : S.pathTo l (k : Int) (j + 1) = S.path l (k : Int) := by rw [hjl]; rfl
                refine cond_f rfl (decide_eq_false hc17) ?_
                refine exit (thn_x (lp_x (blk_here (thn_n (region (ops_y hH16 rfl rfl (yv_move rfl) (ops_y hH16 rfl rfl (yv_move rfl) ?_)))))))
                obtain ⟨s29, hs30⟩ := Heap.sv hH16 (n := 0) rfl (by omega)
                refine op_lit (us := [(0, v_7)]) T.el25_encS [s29] rfl (by decide) rfl (fun a ha => by simp [ha.ev (show ev _ (.tmp 48) = some _ from rfl)]) (fun w => by rw [hs30]; kernel_rfl) hH16 (fun u31 lo33 hi34 w32 hH35 => ?_)
                refine op_append (n := 2) T.el25_encS rfl rfl rfl hH35 rfl (Heap.rdw T.el25_encS hH35 (n := 0) rfl) (by first | omega | (simp only [List.length_append, List.length_cons, List.length_nil]; omega)) (fun u36 lo38 hi39 w37 hH40 => ?_)
                refine ops_y hH40 rfl rfl (yv_assign rfl) (ops_nil (blk_n (thn_n (region (ops_y hH40 rfl rfl (yv_move rfl) ?_)))))
                refine ops_y hH40 rfl rfl (yv_add rfl rfl (by omega)) ?_
                refine ops_y hH40 rfl rfl (yv_assign rfl) (ops_nil ?_)
                have hH41 := (hH40.sub (List.Sublist.cons _ (List.Sublist.refl _)))
                have hH42 := Heap.totail (L := [ow lo38 hi39 22 1 encS u36 ((Rs.map (·.s)) ++ [s29]), base w]) hH41 hs30
                refine lp_n (k + 1, (Rs ++ [RwI.mk lo_7 hi_7 s29 (S.pathTo l (k : Int) (j + 1))]), u36, lo38, hi39) (Sub.cons rfl (Sub.cons rfl (Sub.cons rfl (Sub.cons rfl (Sub.nil _))))) ?_ ?_
                · exact ⟨(Heap.recast (n := 0) hH42 rfl (by first | exact hd_snoc rfl | rfl)), by omega, snd_snoc hR (S.startsTo_t hst) hpe⟩
                · first | (dsimp only; omega) | (show _ < _; omega)
    · skip
      refine cond_f rfl (decide_eq_false hc4) ?_
      refine exit (thn_x (lp_x (blk_here (thn_n (seq (region (ops_y hH3 rfl rfl (yv_move rfl) (ops_y hH3 rfl rfl (yv_assign rfl) (ops_nil ?_)))))))))
      refine thn_n (ret ?_)
      refine fin (hH3.front (n := 1) rfl) (fun w' hf => (res1 rfl (show RV _ _ _ (.tmp 2) _ from rfl))) (fun w' hf => ?_)
      have hk2 : k = l.length := by omega
      subst hk2; refine ⟨Rs.map (·.s), ?_⟩; rw [show S.paths l = Rs.map (·.l) from hR.symm]; exact rows_of_tail T.el25_encS T.el22_encI hf

end Go.Fip

set_option linter.unusedVariables false
set_option linter.unusedSimpArgs false
set_option linter.unusedSectionVars false
set_option linter.unnecessarySimpa false
namespace Go.Fip
open Go.Proofs Go.RowKit

theorem c100 {v : Value} {l : List Int} {w : World} (h0 : Rd encI 1 v l w) (hn : l.length ≤ 1000000) (hr : S.Rg l)  :
    Fn Try.prog 100 [v].toArray w (fun u w => Own 3 1 encI u (S.best l) w) := by
  refine fn_of' (args := [v]) Try.func100 rfl (ent Try.func100 (by kernel_rfl) rfl) rfl rfl (fun hH => ?_)
  have hl10 := hr.2.1
  have hpn := S.paths_len (k := l)
  have hes := S.ends_starts hr
  have hel := S.ends_le (k := l)
  refine seq (region (ops_y hH rfl rfl (yv_assign rfl) (ops_nil (thn_n (seq (region (ops_y hH rfl rfl (yv_move rfl) ?_)))))))
  refine op_fn rfl rfl rfl hH (c60 (h0.now hH (n := 0) rfl) (by omega)) (fun u3 w1 lo4 hi5 hH2 hv6 => ?_)
  have hH7 := Heap.toOw hH2 (n := 0) rfl
  refine ops_y hH7 rfl rfl (yv_assign rfl) (ops_nil (thn_n (seq (region (ops_y hH7 rfl rfl (yv_move rfl) ?_)))))
  refine op_fn rfl rfl rfl hH7 (c101 (h0.now hH7 (n := 1) rfl) (by omega) hr) (fun u10 w8 lo11 hi12 hH9 hv13 => ?_)
  obtain ⟨TT14, hH15⟩ := Heap.fixRows hH9 (n := 0) rfl
  have hTl16 := (show RowsAt u10 TT14 (S.paths l) _ from hH15.get (n := 0) rfl).2.1
  refine ops_y hH15 rfl rfl (yv_assign rfl) (ops_nil (thn_n (seq (seq (region (ops_y hH15 rfl rfl (yv_assign rfl) (ops_nil (thn_n (block ?_)))))))))
  refine loop (S := Nat × List Int × Value × Nat × Nat) (fun (q, o, v_3, lo_3, hi_3) => [(5, (.int .i64 (q : Int))), (3, v_3), (2, (.slice none 0 0)), (4, u10)]) (fun (q, o, v_3, lo_3, hi_3) w1 => Heap [⟨lo11, hi12, RowsAt u10 TT14 (S.paths l)⟩, ow lo_3 hi_3 3 1 encI v_3 o, base w] w1 ∧ q ≤ (S.starts l).length ∧ S.BestP l q o) (fun (q, o, v_3, lo_3, hi_3) => (S.starts l).length - q) (0, l, u3, lo4, hi5) (Sub.cons rfl (Sub.cons rfl (Sub.cons rfl (Sub.cons rfl (Sub.nil _))))) ?_ ?_
  · exact ⟨hH15, by omega, S.BestP.start⟩
  · rintro ⟨q, o, v_3, lo_3, hi_3⟩ w17 ⟨hH18, hq, hP⟩
    show Holds _ _ _ _ _ [(5, (.int .i64 (q : Int))), (3, v_3), (2, (.slice none 0 0)), (4, u10)] _ _
    have hol := hP.1
    refine seq (seq (region (ops_y hH18 rfl rfl (yv_move rfl) (ops_y hH18 rfl rfl (yv_move rfl) ?_))))
    refine ops_y hH18 rfl rfl (yv_len T.sl25 rfl (((show RowsAt u10 TT14 (S.paths l) _ from hH18.get (n := 0) rfl)).1).is) ?_
    refine ops_y hH18 rfl rfl (yv_lss rfl rfl) ?_
    refine ops_nil (thn_n ?_)
    by_cases hc19 : (q : Int) < (TT14.length : Int)
    · skip
      refine cond_t rfl (decide_eq_true hc19) ?_
      refine skip (thn_n (seq (block ?_)))
      obtain ⟨s, hs⟩ : ∃ s, (S.starts l)[q]? = some s := ⟨_, List.getElem?_eq_getElem (show q < (S.starts l).length by omega)⟩
      have hsm := S.mem_starts.1 (List.mem_of_getElem? hs)
      have hnp := S.nth_paths hs
      have hse := S.endOf_in hr (s := (s : Int)) (by omega) (by omega) hsm.2
      have hfl := (S.flen_spec hr (s := (s : Int)) (by omega) (by omega) hsm.2).1
      have hlp : (nth (S.paths l) (q : Int)).length = S.flen l (s : Int) + 1 := by rw [hnp]; exact S.path_length
      have hlast : nth (nth (S.paths l) (q : Int)) (((nth (S.paths l) (q : Int)).length : Int) - 1) = S.endOf l (s : Int) := by rw [hlp, hnp, show (((S.flen l (s : Int) + 1 : Nat) : Int) - 1) = ((S.flen l (s : Int) : Nat) : Int) by omega]; exact S.nth_path (by omega)
      have hfirst : nth (nth (S.paths l) (q : Int)) 0 = (s : Int) := by rw [hnp]; exact S.nth_path (j := 0) (by omega)
      have hoe : o.set (nth (nth (S.paths l) (q : Int)) (((nth (S.paths l) (q : Int)).length : Int) - 1)).toNat (nth (nth (S.paths l) (q : Int)) 0) = o.set (S.endOf l (s : Int)).toNat (s : Int) := by rw [hlast, hfirst]
      refine region_drawY (fun w' => Heap [⟨lo11, hi12, RowsAt u10 TT14 (S.paths l)⟩, ow lo_3 hi_3 3 1 encI v_3 o, base w] w') [20] T.mixed (fun w20 hr21 => ?_)
      have hH22 := hH18.redrawn hr21
      refine any_takesT [0, 1, 2, 3, 5, 6, 7, 13, 14, 15] (by kernel_rfl)  _ _ _ (by kernel_rfl) ?_
      refine qs_y rfl rfl (yv_move rfl) (qs_y rfl rfl (yv_move rfl) (qs_y rfl rfl (yv_move rfl) ?_))
      refine qs_y rfl rfl (yv_index T.sl25 rfl rfl (((show RowsAt u10 TT14 (S.paths l) _ from hH22.get (n := 0) rfl)).1).is (by omega)) ?_
      refine qs_y rfl rfl (yv_move rfl) (qs_y rfl rfl (yv_move rfl) ?_)
      refine qs_y rfl rfl (yv_index T.sl25 rfl rfl (((show RowsAt u10 TT14 (S.paths l) _ from hH22.get (n := 0) rfl)).1).is (by omega)) ?_
      refine qs_y rfl rfl (yv_move rfl) (qs_y rfl rfl (yv_move rfl) ?_)
      refine qs_y rfl rfl (yv_index T.sl25 rfl rfl (((show RowsAt u10 TT14 (S.paths l) _ from hH22.get (n := 0) rfl)).1).is (by omega)) ?_
      refine qs_nil ?_
      refine any_takesY [4, 8, 16] (by kernel_rfl) hH22 _ _ _ (by kernel_rfl) ?_
      refine qs_y rfl rfl (yv_load T.one22 rfl (fun _ hw => Rd.at (((show RowsAt u10 TT14 (S.paths l) _ from hw.get (n := 0) rfl)).1) (i := (q : Int)) (by omega) (j := 0) rfl)) ?_
      refine qs_y rfl rfl (yv_load T.one22 rfl (fun _ hw => Rd.at (((show RowsAt u10 TT14 (S.paths l) _ from hw.get (n := 0) rfl)).1) (i := (q : Int)) (by omega) (j := 0) rfl)) ?_
      refine qs_y rfl rfl (yv_load T.one22 rfl (fun _ hw => Rd.at (((show RowsAt u10 TT14 (S.paths l) _ from hw.get (n := 0) rfl)).1) (i := (q : Int)) (by omega) (j := 0) rfl)) ?_
      refine qs_nil ?_
      refine any_takesT [9, 10, 11, 17] (by kernel_rfl)  _ _ _ (by kernel_rfl) ?_
      refine qs_y rfl rfl (yv_len T.sl22 rfl (RowsAt.at ((show RowsAt u10 TT14 (S.paths l) _ from hH22.get (n := 0) rfl)) (by omega) (by omega)).is) ?_
      refine qs_y rfl rfl (yv_sub rfl rfl (by omega)) ?_
      refine qs_y rfl rfl (yv_index T.sl22 rfl rfl (RowsAt.at ((show RowsAt u10 TT14 (S.paths l) _ from hH22.get (n := 0) rfl)) (by omega) (by omega)).is (by omega)) ?_
      refine qs_y rfl rfl (yv_index T.sl22 rfl rfl (RowsAt.at ((show RowsAt u10 TT14 (S.paths l) _ from hH22.get (n := 0) rfl)) (by omega) (by omega)).is (by omega)) ?_
      refine qs_nil ?_
      refine any_takesY [12, 18] (by kernel_rfl) hH22 _ _ _ (by kernel_rfl) ?_
      refine qs_y rfl rfl (yv_load T.one3 rfl (fun _ hw => Rd.at (RowsAt.at ((show RowsAt u10 TT14 (S.paths l) _ from hw.get (n := 0) rfl)) (by omega) (by omega)) (i := ((nth (S.paths l) (q : Int)).length : Int) - 1) (by omega) (j := 0) rfl)) ?_
      refine qs_y rfl rfl (yv_load T.one3 rfl (fun _ hw => Rd.at (RowsAt.at ((show RowsAt u10 TT14 (S.paths l) _ from hw.get (n := 0) rfl)) (by omega) (by omega)) (i := 0) (by omega) (j := 0) rfl)) ?_
      refine qs_nil ?_
      refine any_takesT [19] (by kernel_rfl)  _ _ _ (by kernel_rfl) ?_
      refine qs_y rfl rfl (yv_index T.sl22 rfl rfl (Heap.rdw T.el22_encI hH22 (n := 1) rfl).is (by omega)) ?_
      refine qs_nil ?_
      refine any_allY [20] (by kernel_rfl) rfl ?_
      refine ⟨⟨_, rfl, ?_⟩, trivial⟩
      · skip
        refine op_setE (n := 1) (i := nth (nth (S.paths l) (q : Int)) (((nth (S.paths l) (q : Int)).length : Int) - 1)) (k := 0) (us := [(.int .i64 (nth (nth (S.paths l) (q : Int)) 0))]) (z := nth (nth (S.paths l) (q : Int)) 0) T.el22_encI rfl rfl hH22 rfl (by omega) T.sz3 rfl rfl rfl (Nat.le_of_ble_eq_true rfl) (fun w23 hH24 => ?_)
        refine ops_nil ?_
        refine ⟨(fun h => by cases h), ?_⟩
        refine any_doneY (by kernel_rfl) ?_
        refine blk_n (thn_n (region (ops_y hH24 rfl rfl (yv_move rfl) ?_)))
        refine ops_y hH24 rfl rfl (yv_add rfl rfl (by omega)) ?_
        refine ops_y hH24 rfl rfl (yv_assign rfl) (ops_nil ?_)
        refine lp_n ((q + 1), (o.set (S.endOf l (s : Int)).toNat (s : Int)), v_3, lo_3, hi_3) (Sub.cons rfl (Sub.cons rfl (Sub.cons rfl (Sub.cons rfl (Sub.nil _))))) ?_ ?_
        · exact ⟨(Heap.recast (n := 1) hH24 rfl (hoe)), by omega, hP.set hr hs⟩
        · first | (dsimp only; omega) | (show _ < _; omega)
    · skip
      refine cond_f rfl (decide_eq_false hc19) ?_
      refine exit (thn_x (lp_x (blk_here (thn_n (seq (region (ops_y hH18 rfl rfl (yv_move rfl) (ops_y hH18 rfl rfl (yv_assign rfl) (ops_nil ?_)))))))))
      refine thn_n (ret ?_)
      have hH25 := (hH18.sub (List.Sublist.cons _ (List.Sublist.refl _)))
      refine fin (hH25.front (n := 1) rfl) (fun w' hf => (res1 rfl (show RV _ _ _ (.tmp 2) _ from rfl))) (fun w' hf => ?_)
      have hqe : q = (S.starts l).length := by omega
      subst hqe; rw [← hP.done hr]; exact Heap.own hf (n := 0) rfl

theorem c49 {v : Value} {l : List Int} {w : World} (h0 : Rd encI 1 v l w) (hn : l.length ≤ 1000000)  :
    Fn Try.prog 49 [v].toArray w (fun u w => ∃ q, u = .tuple #[q, .int .i64 (S.bestR l).2] ∧ Own 3 1 encI q (S.bestR l).1 w) := by
  refine fn_of' (args := [v]) Try.func49 rfl (ent Try.func49 (by kernel_rfl) rfl) rfl rfl (fun hH => ?_)
  refine seq (region (ops_y hH rfl rfl (yv_assign rfl) (ops_y hH rfl rfl (yv_assign rfl) (ops_nil (thn_n (seq (seq ?_)))))))
  by_cases hc1 : S.check l (-1) = 0
  · skip
    have hc0 : S.check l (-1) = 0 := ‹_›
    have hr : S.Rg l := S.check_iff.1 hc0
    have hj : S.J (S.best l) := S.best_J hr
    have hl1 := hr.1
    have hl10 := hr.2.1
    have hbl := S.best_length (k := l)
    refine region (ops_y hH rfl rfl (yv_move rfl) ?_)
    refine op_fnV rfl rfl rfl hH (c55 (h0.now hH (n := 0) rfl) (by omega)) (fun w2 hH3 => ?_)
    refine ops_y hH3 rfl rfl (yv_neq rfl rfl) ?_
    refine ops_nil (thn_n ?_)
    have hc4 : ¬ (¬ ((S.check l (-1)) = 0)) := fun h => h hc0
    refine cond_f rfl (not_decide_f hc4) ?_
    refine skip (thn_n (seq (region (ops_y hH3 rfl rfl (yv_move rfl) ?_))))
    refine op_fn rfl rfl rfl hH3 (c100 (h0.now hH3 (n := 0) rfl) (by omega) hr) (fun u7 w5 lo8 hi9 hH6 hv10 => ?_)
    have hH11 := Heap.toOw hH6 (n := 0) rfl
    refine ops_y hH11 rfl rfl (yv_assign rfl) (ops_y hH11 rfl rfl (yv_assign rfl) (ops_nil (thn_n (ret ?_))))
    refine fin (hH11.front (n := 1) rfl) (fun w' hf => (res2 rfl (show RV _ _ _ (.tmp 2) _ from rfl) (show RV _ _ _ (.tmp 3) _ from rfl))) (fun w' hf => ?_)
    first | (rw [S.br1 hcn]; exact ⟨_, rfl, own_nil⟩) | (rw [S.br2 hc0]; exact ⟨_, rfl, Heap.own hf (n := 0) rfl⟩)
  · skip
    have hcn : ¬ S.check l (-1) = 0 := ‹_›
    refine region (ops_y hH rfl rfl (yv_move rfl) ?_)
    refine op_fnV rfl rfl rfl hH (c55 (h0.now hH (n := 0) rfl) (by omega)) (fun w12 hH13 => ?_)
    refine ops_y hH13 rfl rfl (yv_neq rfl rfl) ?_
    refine ops_nil (thn_n ?_)
    have hc14 : ¬ ((S.check l (-1)) = 0) := hcn
    refine cond_t rfl (not_decide_t hc14) ?_
    refine seq (region (ops_y hH13 rfl rfl (yv_move rfl) ?_))
    refine op_fnV rfl rfl rfl hH13 (c55 (h0.now hH13 (n := 0) rfl) (by omega)) (fun w15 hH16 => ?_)
    refine ops_y hH16 rfl rfl (yv_assign rfl) (ops_y hH16 rfl rfl (yv_assign rfl) (ops_nil (thn_n (ret (thn_r ?_)))))
    refine fin hH16 (fun w' hf => (res2 rfl (show RV _ _ _ (.tmp 2) _ from rfl) (show RV _ _ _ (.tmp 3) _ from rfl))) (fun w' hf => ?_)
    first | (rw [S.br1 hcn]; exact ⟨_, rfl, own_nil⟩) | (rw [S.br2 hc0]; exact ⟨_, rfl, Heap.own hf (n := 0) rfl⟩)

theorem c51 {v : Value} {l : List Int} {w : World} (h0 : Rd encI 1 v l w) (hn : l.length ≤ 1000000)  :
    Fn Try.prog 51 [v].toArray w (fun u _ => u = .tuple #[.agg #[.int .i64 (S.spanR l).1.1, .int .i64 (S.spanR l).1.2], .int .i64 (S.spanR l).2]) := by
  refine fn_of' (args := [v]) Try.func51 rfl (ent Try.func51 (by kernel_rfl) rfl) rfl rfl (fun hH => ?_)
  refine seq (region ?_)
  refine op_alloc (z := (.agg #[(.int .i64 0), (.int .i64 0)])) (us := [(.int .i64 0), (.int .i64 0)]) (fun _ => by kernel_rfl) rfl rfl hH (fun b1 w2 hH3 => ?_)
  refine ops_y hH3 rfl rfl (yv_assign rfl) (ops_nil (thn_n (seq (seq ?_))))
  by_cases hc4 : S.check l (-1) = 0
  · skip
    have hc0 : S.check l (-1) = 0 := ‹_›
    have hr : S.Rg l := S.check_iff.1 hc0
    have hj : S.J (S.best l) := S.best_J hr
    have hl1 := hr.1
    have hl10 := hr.2.1
    have hbl := S.best_length (k := l)
    refine region (ops_y hH3 rfl rfl (yv_move rfl) ?_)
    refine op_fnV rfl rfl rfl hH3 (c55 (h0.now hH3 (n := 1) rfl) (by omega)) (fun w5 hH6 => ?_)
    refine ops_y hH6 rfl rfl (yv_neq rfl rfl) ?_
    refine ops_nil (thn_n ?_)
    have hc7 : ¬ (¬ ((S.check l (-1)) = 0)) := fun h => h hc0
    refine cond_f rfl (not_decide_f hc7) ?_
    refine skip (thn_n (seq ?_))
    have hpn := S.paths_len (k := l)
    have hes := S.ends_starts hr
    have hel := S.ends_le (k := l)
    have hcl := S.circles_len (l := S.best l)
    have hcy := hj.cyc_le
    refine region (ops_y hH6 rfl rfl (yv_move rfl) ?_)
    refine ops_y hH6 rfl rfl (yv_len T.sl22 rfl (h0.now hH6 (n := 1) rfl).is) ?_
    refine ops_y hH6 rfl rfl (yv_move rfl) ?_
    refine op_fn rfl rfl rfl hH6 (c101 (h0.now hH6 (n := 1) rfl) (by omega) hr) (fun u10 w8 lo11 hi12 hH9 hv13 => ?_)
    obtain ⟨TT14, hH15⟩ := Heap.fixRows hH9 (n := 0) rfl
    have hTl16 := (show RowsAt u10 TT14 (S.paths l) _ from hH15.get (n := 0) rfl).2.1
    refine ops_y hH15 rfl rfl (yv_len T.sl25 rfl (((show RowsAt u10 TT14 (S.paths l) _ from hH15.get (n := 0) rfl)).1).is) ?_
    refine ops_y hH15 rfl rfl (yv_assign rfl) (ops_y hH15 rfl rfl (yv_assign rfl) (ops_nil (thn_n (seq (region (ops_y hH15 rfl rfl (yv_move rfl) ?_))))))
    refine op_fn rfl rfl rfl hH15 (c100 (h0.now hH15 (n := 2) rfl) (by omega) hr) (fun u19 w17 lo20 hi21 hH18 hv22 => ?_)
    have hH23 := Heap.toOw hH18 (n := 0) rfl
    refine op_fn rfl rfl rfl hH23 (c75 (Heap.rdw T.el22_encI hH23 (n := 0) rfl) hj) (fun u26 w24 lo27 hi28 hH25 hv29 => ?_)
    obtain ⟨TT30, hH31⟩ := Heap.fixRows hH25 (n := 0) rfl
    have hTl32 := (show RowsAt u26 TT30 (S.circles (S.best l)) _ from hH31.get (n := 0) rfl).2.1
    refine ops_y hH31 rfl rfl (yv_len T.sl25 rfl (((show RowsAt u26 TT30 (S.circles (S.best l)) _ from hH31.get (n := 0) rfl)).1).is) ?_
    refine ops_y hH31 rfl rfl (yv_assign rfl) (ops_nil (thn_n (seq (region (ops_y hH31 rfl rfl (yv_move rfl) (ops_y hH31 rfl rfl (yv_move rfl) ?_))))))
    refine ops_y hH31 rfl rfl (yv_sub rfl rfl (by omega)) ?_
    refine ops_y hH31 rfl rfl (yv_move rfl) (ops_y hH31 rfl rfl (yv_move rfl) ?_)
    refine ops_y hH31 rfl rfl (yv_sub rfl rfl (by omega)) ?_
    refine ops_y hH31 rfl rfl (yv_move rfl) ?_
    refine ops_y hH31 rfl rfl (yv_sub rfl rfl (by omega)) ?_
    refine ops_y hH31 rfl rfl (yv_max rfl rfl) ?_
    refine ops_y hH31 rfl rfl (yv_add rfl rfl (by omega)) ?_
    refine ops_y hH31 rfl rfl (yv_build (v := (.agg #[(.int .i64 ((l.length : Int) - (TT30.length : Int))), (.int .i64 (((l.length : Int) - (TT30.length : Int)) + (max 0 ((TT14.length : Int) - 1))))])) (us := [(0, (.int .i64 ((l.length : Int) - (TT30.length : Int)))), (1, (.int .i64 (((l.length : Int) - (TT30.length : Int)) + (max 0 ((TT14.length : Int) - 1)))))]) (fun a ha => by simp [ha.ev (show ev _ (.tmp 24) = some _ from rfl), ha.ev (show ev _ (.tmp 31) = some _ from rfl)]) (fun w => by kernel_rfl)) ?_
    refine op_store (n := 3) (j := 0) (us := [(.int .i64 ((l.length : Int) - (TT30.length : Int))), (.int .i64 (((l.length : Int) - (TT30.length : Int)) + (max 0 ((TT14.length : Int) - 1))))]) rfl rfl hH31 rfl T.sz50 rfl rfl rfl (by rfl) (fun w33 hH34 => ?_)
    refine ops_y hH34 rfl rfl (yv_assign rfl) (ops_nil (thn_n (ret ?_)))
    have hH35 := (hH34.sub (List.Sublist.cons _ (List.Sublist.cons _ (List.Sublist.cons _ (List.Sublist.refl _)))))
    refine fin (hH35.front (n := 1) rfl) (fun w' hf => (res2 rfl (rvA (cs := [(.int .i64 ((l.length : Int) - (TT30.length : Int))), (.int .i64 (((l.length : Int) - (TT30.length : Int)) + (max 0 ((TT14.length : Int) - 1))))]) rfl T.agg50 rfl (bx_cells (Heap.bxw hf (n := 1) rfl) (k := 0) rfl)) (show RV _ _ _ (.tmp 3) _ from rfl))) (fun w' hf => ?_)
    first | exact tspan (S.sr1 hcn) | (refine tspan ((S.sr2 hc0).trans (Prod.ext (Prod.ext ?_ ?_) rfl)); (dsimp only; unfold S.spanLo; omega); (dsimp only; unfold S.spanHi S.spanLo; omega))
  · skip
    have hcn : ¬ S.check l (-1) = 0 := ‹_›
    refine region (ops_y hH3 rfl rfl (yv_move rfl) ?_)
    refine op_fnV rfl rfl rfl hH3 (c55 (h0.now hH3 (n := 1) rfl) (by omega)) (fun w36 hH37 => ?_)
    refine ops_y hH37 rfl rfl (yv_neq rfl rfl) ?_
    refine ops_nil (thn_n ?_)
    have hc38 : ¬ ((S.check l (-1)) = 0) := hcn
    refine cond_t rfl (not_decide_t hc38) ?_
    refine seq (region ?_)
    refine ops_y hH37 rfl rfl (yv_build (v := (.agg #[(.int .i64 0), (.int .i64 0)])) (us := []) (fun a ha => by simp []) (fun w => by kernel_rfl)) ?_
    refine ops_y hH37 rfl rfl (yv_move rfl) ?_
    refine op_fnV rfl rfl rfl hH37 (c55 (h0.now hH37 (n := 1) rfl) (by omega)) (fun w39 hH40 => ?_)
    refine op_store (n := 0) (j := 0) (us := [(.int .i64 0), (.int .i64 0)]) rfl rfl hH40 rfl T.sz50 rfl rfl rfl (by rfl) (fun w41 hH42 => ?_)
    refine ops_y hH42 rfl rfl (yv_assign rfl) (ops_nil (thn_n (ret (thn_r ?_))))
    refine fin (hH42.front (n := 1) rfl) (fun w' hf => (res2 rfl (rvA (cs := [(.int .i64 0), (.int .i64 0)]) rfl T.agg50 rfl (bx_cells (Heap.bxw hf (n := 1) rfl) (k := 0) rfl)) (show RV _ _ _ (.tmp 3) _ from rfl))) (fun w' hf => ?_)
    first | exact tspan (S.sr1 hcn) | (refine tspan ((S.sr2 hc0).trans (Prod.ext (Prod.ext ?_ ?_) rfl)); (dsimp only; unfold S.spanLo; omega); (dsimp only; unfold S.spanHi S.spanLo; omega))

theorem c53 {v : Value} {l : List Int} {w : World} (h0 : Rd encI 1 v l w) (hn : l.length ≤ 1000000)  :
    Fn Try.prog 53 [v].toArray w (fun u _ => u = .tuple #[.int .i64 (S.countR l).1, .int .i64 (S.countR l).2]) := by
  refine fn_of' (args := [v]) Try.func53 rfl (ent Try.func53 (by kernel_rfl) rfl) rfl rfl (fun hH => ?_)
  refine seq (region (ops_y hH rfl rfl (yv_assign rfl) (ops_y hH rfl rfl (yv_assign rfl) (ops_nil (thn_n (seq (seq ?_)))))))
  by_cases hc1 : S.check l (-1) = 0
  · skip
    have hc0 : S.check l (-1) = 0 := ‹_›
    have hr : S.Rg l := S.check_iff.1 hc0
    have hj : S.J (S.best l) := S.best_J hr
    have hl1 := hr.1
    have hl10 := hr.2.1
    have hbl := S.best_length (k := l)
    refine region (ops_y hH rfl rfl (yv_move rfl) ?_)
    refine op_fnV rfl rfl rfl hH (c55 (h0.now hH (n := 0) rfl) (by omega)) (fun w2 hH3 => ?_)
    refine ops_y hH3 rfl rfl (yv_neq rfl rfl) ?_
    refine ops_nil (thn_n ?_)
    have hc4 : ¬ (¬ ((S.check l (-1)) = 0)) := fun h => h hc0
    refine cond_f rfl (not_decide_f hc4) ?_
    refine skip (thn_n (seq ?_))
    have hpn := S.paths_len (k := l)
    have hes := S.ends_starts hr
    have hel := S.ends_le (k := l)
    refine region (ops_y hH3 rfl rfl (yv_assign rfl) (ops_nil (thn_n (seq (seq (region (ops_y hH3 rfl rfl (yv_assign rfl) (ops_nil (thn_n ?_)))))))))
    refine block ?_
    refine loop (S := Nat) (fun k => [(4, (.int .i64 (S.fact (k + 1) : Int))), (5, (.int .i64 ((k : Int) + 2))), (0, v), (2, (.int .i64 0)), (3, (.int .i64 0))]) (fun k w1 => Heap [base w] w1 ∧ (k + 1 ≤ (S.starts l).length ∨ k = 0)) (fun k => (S.starts l).length - k) (0) (Sub.cons rfl (Sub.cons rfl (Sub.cons rfl (Sub.cons rfl (Sub.cons rfl (Sub.nil _)))))) ?_ ?_
    · exact ⟨hH3, .inr rfl⟩
    · rintro k w5 ⟨hH6, hk⟩
      show Holds _ _ _ _ _ [(4, (.int .i64 (S.fact (k + 1) : Int))), (5, (.int .i64 ((k : Int) + 2))), (0, v), (2, (.int .i64 0)), (3, (.int .i64 0))] _ _
      have hfc : ((S.fact (k + 1) : Nat) : Int) * ((k : Int) + 2) = ((S.fact (k + 1 + 1) : Nat) : Int) := by rw [← fact_cast]; congr 1
      refine seq (seq (region (ops_y hH6 rfl rfl (yv_move rfl) (ops_y hH6 rfl rfl (yv_move rfl) ?_))))
      refine op_fn rfl rfl rfl hH6 (c101 (h0.now hH6 (n := 0) rfl) (by omega) hr) (fun u9 w7 lo10 hi11 hH8 hv12 => ?_)
      obtain ⟨TT13, hH14⟩ := Heap.fixRows hH8 (n := 0) rfl
      have hTl15 := (show RowsAt u9 TT13 (S.paths l) _ from hH14.get (n := 0) rfl).2.1
      refine ops_y hH14 rfl rfl (yv_len T.sl25 rfl (((show RowsAt u9 TT13 (S.paths l) _ from hH14.get (n := 0) rfl)).1).is) ?_
      refine ops_y hH14 rfl rfl (yv_leq rfl rfl) ?_
      refine ops_nil (thn_n ?_)
      by_cases hc16 : ((k : Int) + 2) ≤ (TT13.length : Int)
      · skip
        refine cond_t rfl (decide_eq_true hc16) ?_
        refine skip (thn_n (seq (block ?_)))
        have hfl := fact_le (k := k + 1 + 1) (by omega)
        refine region (ops_y hH14 rfl rfl (yv_move rfl) (ops_y hH14 rfl rfl (yv_move rfl) ?_))
        refine ops_y hH14 rfl rfl (yv_mul rfl rfl (by omega)) ?_
        refine ops_y hH14 rfl rfl (yv_assign rfl) (ops_nil (blk_n (thn_n (region (ops_y hH14 rfl rfl (yv_move rfl) ?_)))))
        refine ops_y hH14 rfl rfl (yv_add rfl rfl (by omega)) ?_
        refine ops_y hH14 rfl rfl (yv_assign rfl) (ops_nil ?_)
        have hH17 := (hH14.sub (List.Sublist.cons _ (List.Sublist.refl _)))
        refine lp_n (k + 1) (Sub.cons (congrArg (fun z => some (Value.int .i64 z)) hfc) (Sub.cons (congrArg (fun z => some (Value.int .i64 z)) (by omega)) (Sub.cons rfl (Sub.cons rfl (Sub.cons rfl (Sub.nil _)))))) ?_ ?_
        · exact ⟨hH17, .inl (by omega)⟩
        · first | (dsimp only; omega) | (show _ < _; omega)
      · skip
        refine cond_f rfl (decide_eq_false hc16) ?_
        refine exit (thn_x (lp_x (blk_here (thn_n (seq ?_)))))
        have hfin : S.fact (k + 1) = S.fact (S.ends l).length := by rcases Nat.eq_zero_or_pos (S.starts l).length with h9 | h9; (rw [hes, h9, show k = 0 by omega]; rfl); (rw [hes]; congr 1; omega)
        refine region (ops_y hH14 rfl rfl (yv_move rfl) (ops_y hH14 rfl rfl (yv_assign rfl) (ops_y hH14 rfl rfl (yv_assign rfl) (ops_nil (thn_n (ret ?_))))))
        have hH18 := (hH14.sub (List.Sublist.cons _ (List.Sublist.refl _)))
        refine fin hH18 (fun w' hf => (res2 rfl (show RV _ _ _ (.tmp 2) _ from rfl) (show RV _ _ _ (.tmp 3) _ from rfl))) (fun w' hf => ?_)
        first | exact tup2 (S.cr1 hcn) | (rw [hfin]; exact tup2 (S.cr2 hc0))
  · skip
    have hcn : ¬ S.check l (-1) = 0 := ‹_›
    refine region (ops_y hH rfl rfl (yv_move rfl) ?_)
    refine op_fnV rfl rfl rfl hH (c55 (h0.now hH (n := 0) rfl) (by omega)) (fun w19 hH20 => ?_)
    refine ops_y hH20 rfl rfl (yv_neq rfl rfl) ?_
    refine ops_nil (thn_n ?_)
    have hc21 : ¬ ((S.check l (-1)) = 0) := hcn
    refine cond_t rfl (not_decide_t hc21) ?_
    refine seq (region (ops_y hH20 rfl rfl (yv_move rfl) ?_))
    refine op_fnV rfl rfl rfl hH20 (c55 (h0.now hH20 (n := 0) rfl) (by omega)) (fun w22 hH23 => ?_)
    refine ops_y hH23 rfl rfl (yv_assign rfl) (ops_y hH23 rfl rfl (yv_assign rfl) (ops_nil (thn_n (ret (thn_r ?_)))))
    refine fin hH23 (fun w' hf => (res2 rfl (show RV _ _ _ (.tmp 2) _ from rfl) (show RV _ _ _ (.tmp 3) _ from rfl))) (fun w' hf => ?_)
    first | exact tup2 (S.cr1 hcn) | (rw [hfin]; exact tup2 (S.cr2 hc0))

theorem c66 {v u : Value} {l m : List Int} {w : World} (h0 : Rd encI 1 v l w) (h1 : Rd encI 1 u m w) (hn : l.length ≤ 1000000) (hn2 : m.length ≤ 1000000)  :
    Fn Try.prog 66 [v, u].toArray w (fun u _ => u = .bool (decide (S.Fits l m))) := by
  refine fn_of' (args := [v, u]) Try.func66 rfl (ent Try.func66 (by kernel_rfl) rfl) rfl rfl (fun hH => ?_)
  refine seq (region (ops_y hH rfl rfl (yv_assign rfl) (ops_nil (thn_n (seq (seq (region (ops_y hH rfl rfl (yv_move rfl) ?_))))))))
  refine ops_y hH rfl rfl (yv_len T.sl22 rfl (h0.now hH (n := 0) rfl).is) ?_
  refine ops_y hH rfl rfl (yv_move rfl) ?_
  refine ops_y hH rfl rfl (yv_len T.sl22 rfl (h1.now hH (n := 0) rfl).is) ?_
  refine ops_y hH rfl rfl (yv_neq rfl rfl) ?_
  refine ops_nil (thn_n ?_)
  by_cases hc1 : (l.length : Int) = (m.length : Int)
  · skip
    refine cond_f rfl (not_decide_n hc1) ?_
    refine skip (thn_n (seq (seq (region (ops_y hH rfl rfl (yv_assign rfl) (ops_nil (thn_n (block ?_))))))))
    refine loop (S := Nat) (fun k => [(5, (.int .i64 (k : Int))), (0, v), (1, u)]) (fun k w1 => Heap [base w] w1 ∧ k ≤ l.length ∧ ∀ i, i < k → 0 ≤ nth m (i : Int) → nth m (i : Int) = nth l (i : Int)) (fun k => l.length - k) (0) (Sub.cons rfl (Sub.cons rfl (Sub.cons rfl (Sub.nil _)))) ?_ ?_
    · exact ⟨hH, by omega, S.all_zero⟩
    · rintro k w2 ⟨hH3, hk, hall⟩
      show Holds _ _ _ _ _ [(5, (.int .i64 (k : Int))), (0, v), (1, u)] _ _
      refine seq (seq (region (ops_y hH3 rfl rfl (yv_move rfl) (ops_y hH3 rfl rfl (yv_move rfl) ?_))))
      refine ops_y hH3 rfl rfl (yv_len T.sl22 rfl (h0.now hH3 (n := 0) rfl).is) ?_
      refine ops_y hH3 rfl rfl (yv_lss rfl rfl) ?_
      refine ops_nil (thn_n ?_)
      by_cases hc4 : (k : Int) < (l.length : Int)
      · skip
        refine cond_t rfl (decide_eq_true hc4) ?_
        refine skip (thn_n (seq (block (seq ?_))))
        refine region_draw (fun w' => Heap [base w] w') T.mixed (fun w5 hr6 => ?_)
        have hH7 := hH3.redrawn hr6
        refine any_takes [0, 1, 2, 3, 4, 5] (by kernel_rfl) hH7 _ _ _ (by kernel_rfl) ?_
        refine qs_y rfl rfl (yv_move rfl) (qs_y rfl rfl (yv_move rfl) ?_)
        refine qs_y rfl rfl (yv_index T.sl22 rfl rfl (h1.now hH7 (n := 0) rfl).is (by omega)) ?_
        refine qs_y rfl rfl (yv_load T.one3 rfl (fun _ hw => Rd.at (h1.now hw (n := 0) rfl) (i := (k : Int)) (by omega) (j := 0) rfl)) ?_
        refine qs_y rfl rfl (yv_geq rfl rfl) ?_
        refine qs_y rfl rfl (yv_move rfl) (qs_nil ?_)
        by_cases hc8 : 0 ≤ (nth m (k : Int))
        · skip
          refine any_takes [6, 7, 8, 9, 10, 11, 12, 13, 14, 15] (by kernel_rfl) hH7 _ _ _ (by kernel_rfl) ?_
          refine qs_yes rfl rfl rfl (decide_eq_true hc8) rfl (yv_move rfl) ?_
          refine qs_yes rfl rfl rfl (decide_eq_true hc8) rfl (yv_move rfl) ?_
          refine qs_yes rfl rfl rfl (decide_eq_true hc8) rfl (yv_index T.sl22 rfl rfl (h1.now hH7 (n := 0) rfl).is (by omega)) ?_
          refine qs_yes rfl rfl rfl (decide_eq_true hc8) rfl (yv_load T.one3 rfl (fun _ hw => Rd.at (h1.now hw (n := 0) rfl) (i := (k : Int)) (by omega) (j := 0) rfl)) ?_
          refine qs_yes rfl rfl rfl (decide_eq_true hc8) rfl (yv_move rfl) ?_
          refine qs_yes rfl rfl rfl (decide_eq_true hc8) rfl (yv_move rfl) ?_
          refine qs_yes rfl rfl rfl (decide_eq_true hc8) rfl (yv_index T.sl22 rfl rfl (h0.now hH7 (n := 0) rfl).is (by omega)) ?_
          refine qs_yes rfl rfl rfl (decide_eq_true hc8) rfl (yv_load T.one3 rfl (fun _ hw => Rd.at (h0.now hw (n := 0) rfl) (i := (k : Int)) (by omega) (j := 0) rfl)) ?_
          refine qs_yes rfl rfl rfl (decide_eq_true hc8) rfl (yv_neq rfl rfl) ?_
          refine qs_y rfl rfl (yv_pick_t rfl (decide_eq_true hc8) rfl) ?_
          refine qs_nil ?_
          refine any_done (by kernel_rfl) ?_
          refine thn_n ?_
          by_cases hc9 : (nth m (k : Int)) = (nth l (k : Int))
          · skip
            refine cond_f rfl (not_decide_n hc9) ?_
            refine skip (blk_n (thn_n (region (ops_y hH7 rfl rfl (yv_move rfl) ?_))))
            refine ops_y hH7 rfl rfl (yv_add rfl rfl (by omega)) ?_
            refine ops_y hH7 rfl rfl (yv_assign rfl) (ops_nil ?_)
            refine lp_n (k + 1) (Sub.cons rfl (Sub.cons rfl (Sub.cons rfl (Sub.nil _)))) ?_ ?_
            · exact ⟨hH7, by omega, S.all_snoc hall (by omega)⟩
            · first | (dsimp only; omega) | (show _ < _; omega)
          · skip
            refine cond_t rfl (not_decide_t hc9) ?_
            refine seq (region (ops_y hH7 rfl rfl (yv_assign rfl) (ops_nil (thn_n (ret (blk_r (thn_r (lp_r (blk_r ?_)))))))))
            refine thn_r ?_
            refine fin hH7 (fun w' hf => (res1 rfl (show RV _ _ _ (.tmp 4) _ from rfl))) (fun w' hf => ?_)
            show Value.bool _ = Value.bool _; congr 1; first | exact (decide_eq_false (fun h => absurd h.1 (by omega))).symm | exact (decide_eq_false (fun h => absurd (h.2 k (by omega) (by omega)) (by omega))).symm | exact (decide_eq_true ⟨by omega, fun i hi => hall i (by omega)⟩).symm
        · skip
          refine any_takes [6, 7, 8, 9, 10, 11, 12, 13, 14, 15] (by kernel_rfl) hH7 _ _ _ (by kernel_rfl) ?_
          refine qs_no rfl rfl rfl (decide_eq_false hc8) rfl ?_
          refine qs_no rfl rfl rfl (decide_eq_false hc8) rfl ?_
          refine qs_no rfl rfl rfl (decide_eq_false hc8) rfl ?_
          refine qs_no rfl rfl rfl (decide_eq_false hc8) rfl ?_
          refine qs_no rfl rfl rfl (decide_eq_false hc8) rfl ?_
          refine qs_no rfl rfl rfl (decide_eq_false hc8) rfl ?_
          refine qs_no rfl rfl rfl (decide_eq_false hc8) rfl ?_
          refine qs_no rfl rfl rfl (decide_eq_false hc8) rfl ?_
          refine qs_no rfl rfl rfl (decide_eq_false hc8) rfl ?_
          refine qs_y rfl rfl (yv_pick_f rfl (decide_eq_false hc8) rfl) ?_
          refine qs_nil ?_
          refine any_done (by kernel_rfl) ?_
          refine thn_n ?_
          refine cond_f rfl rfl ?_
          refine skip (blk_n (thn_n (region (ops_y hH7 rfl rfl (yv_move rfl) ?_))))
          refine ops_y hH7 rfl rfl (yv_add rfl rfl (by omega)) ?_
          refine ops_y hH7 rfl rfl (yv_assign rfl) (ops_nil ?_)
          refine lp_n (k + 1) (Sub.cons rfl (Sub.cons rfl (Sub.cons rfl (Sub.nil _)))) ?_ ?_
          · exact ⟨hH7, by omega, S.all_snoc hall (by omega)⟩
          · first | (dsimp only; omega) | (show _ < _; omega)
      · skip
        refine cond_f rfl (decide_eq_false hc4) ?_
        refine exit (thn_x (lp_x (blk_here (thn_n (seq (region (ops_y hH3 rfl rfl (yv_assign rfl) (ops_nil (thn_n ?_)))))))))
        refine ret ?_
        refine fin hH3 (fun w' hf => (res1 rfl (show RV _ _ _ (.tmp 4) _ from rfl))) (fun w' hf => ?_)
        show Value.bool _ = Value.bool _; congr 1; first | exact (decide_eq_false (fun h => absurd h.1 (by omega))).symm | exact (decide_eq_false (fun h => absurd (h.2 k (by omega) (by omega)) (by omega))).symm | exact (decide_eq_true ⟨by omega, fun i hi => hall i (by omega)⟩).symm
  · skip
    refine cond_t rfl (not_decide_t hc1) ?_
    refine seq (region (ops_y hH rfl rfl (yv_assign rfl) (ops_nil (thn_n (ret (thn_r ?_))))))
    refine fin hH (fun w' hf => (res1 rfl (show RV _ _ _ (.tmp 4) _ from rfl))) (fun w' hf => ?_)
    show Value.bool _ = Value.bool _; congr 1; first | exact (decide_eq_false (fun h => absurd h.1 (by omega))).symm | exact (decide_eq_false (fun h => absurd (h.2 k (by omega) (by omega)) (by omega))).symm | exact (decide_eq_true ⟨by omega, fun i hi => hall i (by omega)⟩).symm

end Go.Fip

set_option linter.unusedVariables false
set_option linter.unusedSimpArgs false
set_option linter.unusedSectionVars false
set_option linter.unnecessarySimpa false
namespace Go.Fip
open Go.Proofs Go.RowKit

theorem RowsAt.three {u : Value} {s0 s1 s2 : Hd} {l0 l1 l2 : List Int} {w : World} (h : Rd encS 1 u [s0, s1, s2] w) (h0 : Rd encI 1 (sv s0) l0 w) (h1 : Rd encI 1 (sv s1) l1 w) (h2 : Rd encI 1 (sv s2) l2 w) : RowsAt u [s0, s1, s2] [l0, l1, l2] w :=
  ⟨h, rfl, fun i hi => by
    match i, hi with
    | 0, _ => exact h0
    | 1, _ => exact h1
    | 2, _ => exact h2⟩
theorem rd_hd {v : Value} {s : Hd} {l : List Int} {w : World} (h : Rd encI 1 v l w) (e : v = sv s) : Rd encI 1 (sv s) l w := e ▸ h

theorem c68 {v : Value} {w : World}  :
    Fn Try.prog 68 [v].toArray w (fun u _ => u = v) := by
  refine fn_of' (args := [v]) Try.func68 rfl (ent Try.func68 (by kernel_rfl) rfl) rfl rfl (fun hH => ?_)
  refine seq (region (ops_y hH rfl rfl (yv_assign rfl) (ops_nil (thn_n (seq (region (ops_y hH rfl rfl (yv_move rfl) (ops_y hH rfl rfl (yv_assign rfl) (ops_nil ?_)))))))))
  refine thn_n (ret ?_)
  refine fin hH (fun w' hf => (res1 rfl (show RV _ _ _ (.tmp 2) _ from rfl))) (fun w' hf => ?_)
  rfl

theorem c69 {v : Value} {w : World}  :
    Fn Try.prog 69 [v].toArray w (fun u _ => u = v) := by
  refine fn_of' (args := [v]) Try.func69 rfl (ent Try.func69 (by kernel_rfl) rfl) rfl rfl (fun hH => ?_)
  refine seq (region (ops_y hH rfl rfl (yv_assign rfl) (ops_nil (thn_n (seq (region (ops_y hH rfl rfl (yv_move rfl) (ops_y hH rfl rfl (yv_assign rfl) (ops_nil ?_)))))))))
  refine thn_n (ret ?_)
  refine fin hH (fun w' hf => (res1 rfl (show RV _ _ _ (.tmp 2) _ from rfl))) (fun w' hf => ?_)
  rfl

theorem c71 {v : Value} {w : World}  :
    Fn Try.prog 71 [v].toArray w (fun u _ => u = v) := by
  refine fn_of' (args := [v]) Try.func71 rfl (ent Try.func71 (by kernel_rfl) rfl) rfl rfl (fun hH => ?_)
  refine seq (region (ops_y hH rfl rfl (yv_assign rfl) (ops_nil (thn_n (seq (region (ops_y hH rfl rfl (yv_move rfl) (ops_y hH rfl rfl (yv_assign rfl) (ops_nil ?_)))))))))
  refine thn_n (ret ?_)
  refine fin hH (fun w' hf => (res1 rfl (show RV _ _ _ (.tmp 2) _ from rfl))) (fun w' hf => ?_)
  rfl

theorem c67 {w : World}  :
    Fn Try.prog 67 [].toArray w (fun u w => Own 3 1 encI u [1, 2, 0, 4, 3, 5] w) := by
  refine fn_of' (args := []) Try.func67 rfl (ent Try.func67 (by kernel_rfl) rfl) rfl rfl (fun hH => ?_)
  refine seq (region (ops_y hH rfl rfl (yv_assign rfl) (ops_nil (thn_n (seq (region ?_))))))
  refine op_lit (us := [(0, (.int .i64 1)), (1, (.int .i64 2)), (2, (.int .i64 0)), (3, (.int .i64 4)), (4, (.int .i64 3)), (5, (.int .i64 5))]) T.el22_encI [1, 2, 0, 4, 3, 5] rfl (by decide) rfl (fun a ha => by simp [ha.ev (show ev _ (.const (.int .i64 1)) = some _ from rfl), ha.ev (show ev _ (.const (.int .i64 2)) = some _ from rfl), ha.ev (show ev _ (.const (.int .i64 0)) = some _ from rfl), ha.ev (show ev _ (.const (.int .i64 4)) = some _ from rfl), ha.ev (show ev _ (.const (.int .i64 3)) = some _ from rfl), ha.ev (show ev _ (.const (.int .i64 5)) = some _ from rfl)]) (fun w => by kernel_rfl) hH (fun u1 lo3 hi4 w2 hH5 => ?_)
  refine op_fnV rfl rfl rfl hH5 (c69) (fun w6 hH7 => ?_)
  refine ops_y hH7 rfl rfl (yv_assign rfl) (ops_nil (thn_n (ret ?_)))
  refine fin (hH7.front (n := 1) rfl) (fun w' hf => (res1 rfl (show RV _ _ _ (.tmp 0) _ from rfl))) (fun w' hf => ?_)
  exact Heap.own hf (n := 0) rfl

theorem c70 {w : World}  :
    Fn Try.prog 70 [].toArray w (fun u w => Own 3 1 encI u [1, (-1), (-1), 3] w) := by
  refine fn_of' (args := []) Try.func70 rfl (ent Try.func70 (by kernel_rfl) rfl) rfl rfl (fun hH => ?_)
  refine seq (region (ops_y hH rfl rfl (yv_assign rfl) (ops_nil (thn_n (seq (region ?_))))))
  refine op_lit (us := [(0, (.int .i64 1)), (1, (.int .i64 (-1))), (2, (.int .i64 (-1))), (3, (.int .i64 3))]) T.el22_encI [1, (-1), (-1), 3] rfl (by decide) rfl (fun a ha => by simp [ha.ev (show ev _ (.const (.int .i64 1)) = some _ from rfl), ha.ev (show ev _ (.const (.int .i64 (-1))) = some _ from rfl), ha.ev (show ev _ (.const (.int .i64 (-1))) = some _ from rfl), ha.ev (show ev _ (.const (.int .i64 3)) = some _ from rfl)]) (fun w => by kernel_rfl) hH (fun u1 lo3 hi4 w2 hH5 => ?_)
  refine op_fnV rfl rfl rfl hH5 (c69) (fun w6 hH7 => ?_)
  refine ops_y hH7 rfl rfl (yv_assign rfl) (ops_nil (thn_n (ret ?_)))
  refine fin (hH7.front (n := 1) rfl) (fun w' hf => (res1 rfl (show RV _ _ _ (.tmp 0) _ from rfl))) (fun w' hf => ?_)
  exact Heap.own hf (n := 0) rfl

namespace K
theorem cl : S.circR [1, 2, 0, 4, 3, 5] = ([[0, 1, 2], [3, 4], [5]], 0) := by decide +kernel
theorem ex : S.exsR [1, 2, 0, 4, 3, 5] = ([(0, 1), (0, 2), (3, 4)], 0) := by decide +kernel
theorem ap : S.applyR [1, 2, 0, 4, 3, 5] [(0, 0)] = ([], 15) := by decide +kernel
theorem wr : S.wrong [1, 2, 0, 4, 3, 5] = ([(0, 2), (1, 2), (3, 4)], 0) := by decide +kernel
theorem sp : S.stepsR [1, 2, 0, 4, 3, 5] = ([1, 0, 3], 0) := by decide +kernel
theorem ag : S.againR [1, 2, 0, 4, 3, 5] = (6, 0) := by decide +kernel
theorem po : S.power [1, 2, 0, 4, 3, 5] 2 = ([2, 0, 1, 3, 4, 5], 0) := by decide +kernel
theorem pm : S.power [1, 2, 0, 4, 3, 5] (-1) = ([], 2) := by decide +kernel
theorem jo : S.join [1, 0, 2] [0, 2, 1] = ([2, 0, 1], 0) := by decide +kernel
theorem jn : S.join [1, 2, 0, 4, 3, 5] [0, 1] = ([], 15) := by decide +kernel
theorem al : S.alikeR [1, 0, 2] [0, 2, 1] = ([1, 2, 0], 0) := by decide +kernel
theorem an : S.alikeR [1, 0, 2] [1, 2, 0] = ([], 20) := by decide +kernel
theorem ro : S.rootR [1, 0, 3, 2] = ([2, 3, 1, 0], 0) := by decide +kernel
theorem rn : S.rootR [1, 2, 0, 4, 3, 5] = ([], 20) := by decide +kernel
theorem no : S.noneR [1, 2, 0, 4, 3, 5] = (2, 0) := by decide +kernel
theorem cn : S.checkNone [1, 2, 0, 4, 3, 5] 3 = 14 := by decide +kernel
theorem be : S.bestR [1, (-1), (-1), 3] = ([1, 0, 2, 3], 0) := by decide +kernel
theorem sn : S.spanR [1, (-1), (-1), 3] = ((1, 2), 0) := by decide +kernel
theorem co : S.countR [1, (-1), (-1), 3] = (2, 0) := by decide +kernel
theorem ck : S.check [1, (-1), 1] (-1) = 11 := by decide +kernel
end K
theorem c18 {w : World}  :
    Fn Try.prog 18 [].toArray w (fun u _ => u = .bool true) := by
  refine fn_of' (args := []) Try.func18 rfl (ent Try.func18 (by kernel_rfl) rfl) rfl rfl (fun hH => ?_)
  refine seq (region (ops_y hH rfl rfl (yv_assign rfl) (ops_nil (thn_n (seq (region ?_))))))
  refine op_fn rfl rfl rfl hH (c67) (fun u3 w1 lo4 hi5 hH2 hv6 => ?_)
  have hH7 := Heap.toOw hH2 (n := 0) rfl
  refine op_fn rfl rfl rfl hH7 (c70) (fun u10 w8 lo11 hi12 hH9 hv13 => ?_)
  have hH14 := Heap.toOw hH9 (n := 0) rfl
  refine ops_y hH14 rfl rfl (yv_assign rfl) (ops_y hH14 rfl rfl (yv_assign rfl) (ops_nil (thn_n (seq (region (ops_y hH14 rfl rfl (yv_move rfl) ?_))))))
  refine op_fn rfl rfl rfl hH14 ((by have h := c19 (Heap.rdw T.el22_encI hH14 (n := 1) rfl) (by decide); simp only [K.cl] at h; exact h)) (fun u17 w15 lo18 hi19 hH16 hv20 => ?_)
  obtain ⟨p23, hu, -⟩ := hv20
  subst hu
  obtain ⟨TT21, hH22⟩ := Heap.tupRows hH16 (n := 0) rfl
  have hTl24 := (show RowsAt p23 TT21 [[0, 1, 2], [3, 4], [5]] _ from hH22.get (n := 0) rfl).2.1
  refine ops_y hH22 rfl rfl (yv_move rfl) (ops_y hH22 rfl rfl (yv_extract rfl rfl) (ops_y hH22 rfl rfl (yv_extract rfl rfl) (ops_y hH22 rfl rfl (yv_assign rfl) (ops_y hH22 rfl rfl (yv_assign rfl) (ops_nil (thn_n (seq (region (ops_y hH22 rfl rfl (yv_move rfl) ?_)))))))))
  refine op_fn rfl rfl rfl hH22 ((by have h := c29 (Heap.rdw T.el22_encI hH22 (n := 2) rfl) (by decide); simp only [K.ex] at h; exact h)) (fun u27 w25 lo28 hi29 hH26 hv30 => ?_)
  obtain ⟨p32, hu, -⟩ := hv30
  subst hu
  have hH31 := Heap.tup2 hH26 (n := 0) rfl
  refine ops_y hH31 rfl rfl (yv_move rfl) (ops_y hH31 rfl rfl (yv_extract rfl rfl) (ops_y hH31 rfl rfl (yv_extract rfl rfl) (ops_y hH31 rfl rfl (yv_assign rfl) (ops_y hH31 rfl rfl (yv_assign rfl) (ops_nil (thn_n (seq (region (ops_y hH31 rfl rfl (yv_move rfl) ?_)))))))))
  refine ops_y hH31 rfl rfl (yv_build (v := (.agg #[(.int .i64 0), (.int .i64 0)])) (us := [(0, (.int .i64 0)), (1, (.int .i64 0))]) (fun a ha => by simp [ha.ev (show ev _ (.const (.int .i64 0)) = some _ from rfl), ha.ev (show ev _ (.const (.int .i64 0)) = some _ from rfl)]) (fun w => by kernel_rfl)) ?_
  refine op_lit (us := [(0, (.agg #[(.int .i64 0), (.int .i64 0)]))]) T.el29_encP [(0, 0)] rfl (by decide) rfl (fun a ha => by simp [ha.ev (show ev _ (.tmp 55) = some _ from rfl)]) (fun w => by kernel_rfl) hH31 (fun u33 lo35 hi36 w34 hH37 => ?_)
  refine op_fnV rfl rfl rfl hH37 (c68) (fun w38 hH39 => ?_)
  refine op_fn rfl rfl rfl hH39 ((by have h := c27 (Heap.rdw T.el22_encI hH39 (n := 4) rfl) (Heap.rdw T.el29_encP hH39 (n := 0) rfl) (by decide) (by decide); simp only [K.ap] at h; exact h)) (fun u42 w40 lo43 hi44 hH41 hv45 => ?_)
  obtain ⟨p47, hu, -⟩ := hv45
  subst hu
  have hH46 := Heap.tup2 hH41 (n := 0) rfl
  refine ops_y hH46 rfl rfl (yv_move rfl) (ops_y hH46 rfl rfl (yv_extract rfl rfl) (ops_y hH46 rfl rfl (yv_extract rfl rfl) (ops_y hH46 rfl rfl (yv_assign rfl) (ops_y hH46 rfl rfl (yv_assign rfl) (ops_nil (thn_n (seq (region (ops_y hH46 rfl rfl (yv_move rfl) ?_)))))))))
  refine op_fn rfl rfl rfl hH46 ((by have h := c21 (Heap.rdw T.el22_encI hH46 (n := 5) rfl) (by decide); simp only [K.wr] at h; exact h)) (fun u50 w48 lo51 hi52 hH49 hv53 => ?_)
  obtain ⟨p55, hu, -⟩ := hv53
  subst hu
  have hH54 := Heap.tup2 hH49 (n := 0) rfl
  refine ops_y hH54 rfl rfl (yv_move rfl) (ops_y hH54 rfl rfl (yv_extract rfl rfl) (ops_y hH54 rfl rfl (yv_extract rfl rfl) (ops_y hH54 rfl rfl (yv_assign rfl) (ops_y hH54 rfl rfl (yv_assign rfl) (ops_nil (thn_n (seq (region (ops_y hH54 rfl rfl (yv_move rfl) ?_)))))))))
  refine op_fn rfl rfl rfl hH54 ((by have h := c31 (Heap.rdw T.el22_encI hH54 (n := 6) rfl) (by decide); simp only [K.sp] at h; exact h)) (fun u58 w56 lo59 hi60 hH57 hv61 => ?_)
  obtain ⟨p63, hu, -⟩ := hv61
  subst hu
  have hH62 := Heap.tup2 hH57 (n := 0) rfl
  refine ops_y hH62 rfl rfl (yv_move rfl) (ops_y hH62 rfl rfl (yv_extract rfl rfl) (ops_y hH62 rfl rfl (yv_extract rfl rfl) (ops_y hH62 rfl rfl (yv_assign rfl) (ops_y hH62 rfl rfl (yv_assign rfl) (ops_nil (thn_n (seq (region (ops_y hH62 rfl rfl (yv_move rfl) ?_)))))))))
  refine op_fnV rfl rfl rfl hH62 ((by have h := c34 (Heap.rdw T.el22_encI hH62 (n := 7) rfl) (by decide); simp only [K.ag] at h; exact h)) (fun w64 hH65 => ?_)
  refine ops_y hH65 rfl rfl (yv_move rfl) (ops_y hH65 rfl rfl (yv_extract rfl rfl) (ops_y hH65 rfl rfl (yv_extract rfl rfl) (ops_y hH65 rfl rfl (yv_assign rfl) (ops_y hH65 rfl rfl (yv_assign rfl) (ops_nil (thn_n (seq (region (ops_y hH65 rfl rfl (yv_move rfl) ?_)))))))))
  refine op_fn rfl rfl rfl hH65 ((by have h := c36 (Heap.rdw T.el22_encI hH65 (n := 7) rfl) (by decide) (t := 2); simp only [K.po] at h; exact h)) (fun u68 w66 lo69 hi70 hH67 hv71 => ?_)
  obtain ⟨p73, hu, -⟩ := hv71
  subst hu
  have hH72 := Heap.tup2 hH67 (n := 0) rfl
  refine ops_y hH72 rfl rfl (yv_move rfl) (ops_y hH72 rfl rfl (yv_extract rfl rfl) (ops_y hH72 rfl rfl (yv_extract rfl rfl) (ops_y hH72 rfl rfl (yv_assign rfl) (ops_y hH72 rfl rfl (yv_assign rfl) (ops_nil (thn_n (seq (region (ops_y hH72 rfl rfl (yv_move rfl) ?_)))))))))
  refine op_fn rfl rfl rfl hH72 ((by have h := c36 (Heap.rdw T.el22_encI hH72 (n := 8) rfl) (by decide) (t := (-1)); simp only [K.pm] at h; exact h)) (fun u76 w74 lo77 hi78 hH75 hv79 => ?_)
  obtain ⟨p81, hu, -⟩ := hv79
  subst hu
  have hH80 := Heap.tup2 hH75 (n := 0) rfl
  refine ops_y hH80 rfl rfl (yv_move rfl) (ops_y hH80 rfl rfl (yv_extract rfl rfl) (ops_y hH80 rfl rfl (yv_extract rfl rfl) (ops_y hH80 rfl rfl (yv_assign rfl) (ops_y hH80 rfl rfl (yv_assign rfl) (ops_nil (thn_n (seq (region ?_))))))))
  refine op_lit (us := [(0, (.int .i64 1)), (1, (.int .i64 0)), (2, (.int .i64 2))]) T.el22_encI [1, 0, 2] rfl (by decide) rfl (fun a ha => by simp [ha.ev (show ev _ (.const (.int .i64 1)) = some _ from rfl), ha.ev (show ev _ (.const (.int .i64 0)) = some _ from rfl), ha.ev (show ev _ (.const (.int .i64 2)) = some _ from rfl)]) (fun w => by kernel_rfl) hH80 (fun u82 lo84 hi85 w83 hH86 => ?_)
  refine op_fnV rfl rfl rfl hH86 (c69) (fun w87 hH88 => ?_)
  refine op_lit (us := [(0, (.int .i64 0)), (1, (.int .i64 2)), (2, (.int .i64 1))]) T.el22_encI [0, 2, 1] rfl (by decide) rfl (fun a ha => by simp [ha.ev (show ev _ (.const (.int .i64 0)) = some _ from rfl), ha.ev (show ev _ (.const (.int .i64 2)) = some _ from rfl), ha.ev (show ev _ (.const (.int .i64 1)) = some _ from rfl)]) (fun w => by kernel_rfl) hH88 (fun u89 lo91 hi92 w90 hH93 => ?_)
  refine op_fnV rfl rfl rfl hH93 (c69) (fun w94 hH95 => ?_)
  refine op_fn rfl rfl rfl hH95 ((by have h := c38 (Heap.rdw T.el22_encI hH95 (n := 1) rfl) (Heap.rdw T.el22_encI hH95 (n := 0) rfl) (by decide) (by decide); simp only [K.jo] at h; exact h)) (fun u98 w96 lo99 hi100 hH97 hv101 => ?_)
  obtain ⟨p103, hu, -⟩ := hv101
  subst hu
  have hH102 := Heap.tup2 hH97 (n := 0) rfl
  refine ops_y hH102 rfl rfl (yv_move rfl) (ops_y hH102 rfl rfl (yv_extract rfl rfl) (ops_y hH102 rfl rfl (yv_extract rfl rfl) (ops_y hH102 rfl rfl (yv_assign rfl) (ops_y hH102 rfl rfl (yv_assign rfl) (ops_nil (thn_n (seq (region (ops_y hH102 rfl rfl (yv_move rfl) ?_)))))))))
  refine op_lit (us := [(0, (.int .i64 0)), (1, (.int .i64 1))]) T.el22_encI [0, 1] rfl (by decide) rfl (fun a ha => by simp [ha.ev (show ev _ (.const (.int .i64 0)) = some _ from rfl), ha.ev (show ev _ (.const (.int .i64 1)) = some _ from rfl)]) (fun w => by kernel_rfl) hH102 (fun u104 lo106 hi107 w105 hH108 => ?_)
  refine op_fnV rfl rfl rfl hH108 (c69) (fun w109 hH110 => ?_)
  refine op_fn rfl rfl rfl hH110 ((by have h := c38 (Heap.rdw T.el22_encI hH110 (n := 13) rfl) (Heap.rdw T.el22_encI hH110 (n := 0) rfl) (by decide) (by decide); simp only [K.jn] at h; exact h)) (fun u113 w111 lo114 hi115 hH112 hv116 => ?_)
  obtain ⟨p118, hu, -⟩ := hv116
  subst hu
  have hH117 := Heap.tup2 hH112 (n := 0) rfl
  refine ops_y hH117 rfl rfl (yv_move rfl) (ops_y hH117 rfl rfl (yv_extract rfl rfl) (ops_y hH117 rfl rfl (yv_extract rfl rfl) (ops_y hH117 rfl rfl (yv_assign rfl) (ops_y hH117 rfl rfl (yv_assign rfl) (ops_nil (thn_n (seq (region ?_))))))))
  refine op_lit (us := [(0, (.int .i64 1)), (1, (.int .i64 0)), (2, (.int .i64 2))]) T.el22_encI [1, 0, 2] rfl (by decide) rfl (fun a ha => by simp [ha.ev (show ev _ (.const (.int .i64 1)) = some _ from rfl), ha.ev (show ev _ (.const (.int .i64 0)) = some _ from rfl), ha.ev (show ev _ (.const (.int .i64 2)) = some _ from rfl)]) (fun w => by kernel_rfl) hH117 (fun u119 lo121 hi122 w120 hH123 => ?_)
  refine op_fnV rfl rfl rfl hH123 (c69) (fun w124 hH125 => ?_)
  refine op_lit (us := [(0, (.int .i64 0)), (1, (.int .i64 2)), (2, (.int .i64 1))]) T.el22_encI [0, 2, 1] rfl (by decide) rfl (fun a ha => by simp [ha.ev (show ev _ (.const (.int .i64 0)) = some _ from rfl), ha.ev (show ev _ (.const (.int .i64 2)) = some _ from rfl), ha.ev (show ev _ (.const (.int .i64 1)) = some _ from rfl)]) (fun w => by kernel_rfl) hH125 (fun u126 lo128 hi129 w127 hH130 => ?_)
  refine op_fnV rfl rfl rfl hH130 (c69) (fun w131 hH132 => ?_)
  refine op_fn rfl rfl rfl hH132 ((by have h := c40 (Heap.rdw T.el22_encI hH132 (n := 1) rfl) (Heap.rdw T.el22_encI hH132 (n := 0) rfl) (by decide) (by decide); simp only [K.al] at h; exact h)) (fun u135 w133 lo136 hi137 hH134 hv138 => ?_)
  obtain ⟨p140, hu, -⟩ := hv138
  subst hu
  have hH139 := Heap.tup2 hH134 (n := 0) rfl
  refine ops_y hH139 rfl rfl (yv_move rfl) (ops_y hH139 rfl rfl (yv_extract rfl rfl) (ops_y hH139 rfl rfl (yv_extract rfl rfl) (ops_y hH139 rfl rfl (yv_assign rfl) (ops_y hH139 rfl rfl (yv_assign rfl) (ops_nil (thn_n (seq (region ?_))))))))
  refine op_lit (us := [(0, (.int .i64 1)), (1, (.int .i64 0)), (2, (.int .i64 2))]) T.el22_encI [1, 0, 2] rfl (by decide) rfl (fun a ha => by simp [ha.ev (show ev _ (.const (.int .i64 1)) = some _ from rfl), ha.ev (show ev _ (.const (.int .i64 0)) = some _ from rfl), ha.ev (show ev _ (.const (.int .i64 2)) = some _ from rfl)]) (fun w => by kernel_rfl) hH139 (fun u141 lo143 hi144 w142 hH145 => ?_)
  refine op_fnV rfl rfl rfl hH145 (c69) (fun w146 hH147 => ?_)
  refine op_lit (us := [(0, (.int .i64 1)), (1, (.int .i64 2)), (2, (.int .i64 0))]) T.el22_encI [1, 2, 0] rfl (by decide) rfl (fun a ha => by simp [ha.ev (show ev _ (.const (.int .i64 1)) = some _ from rfl), ha.ev (show ev _ (.const (.int .i64 2)) = some _ from rfl), ha.ev (show ev _ (.const (.int .i64 0)) = some _ from rfl)]) (fun w => by kernel_rfl) hH147 (fun u148 lo150 hi151 w149 hH152 => ?_)
  refine op_fnV rfl rfl rfl hH152 (c69) (fun w153 hH154 => ?_)
  refine op_fn rfl rfl rfl hH154 ((by have h := c40 (Heap.rdw T.el22_encI hH154 (n := 1) rfl) (Heap.rdw T.el22_encI hH154 (n := 0) rfl) (by decide) (by decide); simp only [K.an] at h; exact h)) (fun u157 w155 lo158 hi159 hH156 hv160 => ?_)
  obtain ⟨p162, hu, -⟩ := hv160
  subst hu
  have hH161 := Heap.tup2 hH156 (n := 0) rfl
  refine ops_y hH161 rfl rfl (yv_move rfl) (ops_y hH161 rfl rfl (yv_extract rfl rfl) (ops_y hH161 rfl rfl (yv_extract rfl rfl) (ops_y hH161 rfl rfl (yv_assign rfl) (ops_y hH161 rfl rfl (yv_assign rfl) (ops_nil (thn_n (seq (region ?_))))))))
  refine op_lit (us := [(0, (.int .i64 1)), (1, (.int .i64 0)), (2, (.int .i64 3)), (3, (.int .i64 2))]) T.el22_encI [1, 0, 3, 2] rfl (by decide) rfl (fun a ha => by simp [ha.ev (show ev _ (.const (.int .i64 1)) = some _ from rfl), ha.ev (show ev _ (.const (.int .i64 0)) = some _ from rfl), ha.ev (show ev _ (.const (.int .i64 3)) = some _ from rfl), ha.ev (show ev _ (.const (.int .i64 2)) = some _ from rfl)]) (fun w => by kernel_rfl) hH161 (fun u163 lo165 hi166 w164 hH167 => ?_)
  refine op_fnV rfl rfl rfl hH167 (c69) (fun w168 hH169 => ?_)
  refine op_fn rfl rfl rfl hH169 ((by have h := c42 (Heap.rdw T.el22_encI hH169 (n := 0) rfl) (by decide); simp only [K.ro] at h; exact h)) (fun u172 w170 lo173 hi174 hH171 hv175 => ?_)
  obtain ⟨p177, hu, -⟩ := hv175
  subst hu
  have hH176 := Heap.tup2 hH171 (n := 0) rfl
  refine ops_y hH176 rfl rfl (yv_move rfl) (ops_y hH176 rfl rfl (yv_extract rfl rfl) (ops_y hH176 rfl rfl (yv_extract rfl rfl) (ops_y hH176 rfl rfl (yv_assign rfl) (ops_y hH176 rfl rfl (yv_assign rfl) (ops_nil (thn_n (seq (region (ops_y hH176 rfl rfl (yv_move rfl) ?_)))))))))
  refine op_fn rfl rfl rfl hH176 ((by have h := c42 (Heap.rdw T.el22_encI hH176 (n := 22) rfl) (by decide); simp only [K.rn] at h; exact h)) (fun u180 w178 lo181 hi182 hH179 hv183 => ?_)
  obtain ⟨p185, hu, -⟩ := hv183
  subst hu
  have hH184 := Heap.tup2 hH179 (n := 0) rfl
  refine ops_y hH184 rfl rfl (yv_move rfl) (ops_y hH184 rfl rfl (yv_extract rfl rfl) (ops_y hH184 rfl rfl (yv_extract rfl rfl) (ops_y hH184 rfl rfl (yv_assign rfl) (ops_y hH184 rfl rfl (yv_assign rfl) (ops_nil (thn_n (seq (region (ops_y hH184 rfl rfl (yv_move rfl) ?_)))))))))
  refine op_fnV rfl rfl rfl hH184 ((by have h := c44 (Heap.rdw T.el22_encI hH184 (n := 23) rfl) (by decide); simp only [K.no] at h; exact h)) (fun w186 hH187 => ?_)
  refine ops_y hH187 rfl rfl (yv_move rfl) (ops_y hH187 rfl rfl (yv_extract rfl rfl) (ops_y hH187 rfl rfl (yv_extract rfl rfl) (ops_y hH187 rfl rfl (yv_assign rfl) (ops_y hH187 rfl rfl (yv_assign rfl) (ops_nil (thn_n (seq (region (ops_y hH187 rfl rfl (yv_move rfl) ?_)))))))))
  refine op_fnV rfl rfl rfl hH187 ((by have h := c46 (Heap.rdw T.el22_encI hH187 (n := 23) rfl) (by decide) (a := 3); simp only [K.cn] at h; exact h)) (fun w188 hH189 => ?_)
  refine ops_y hH189 rfl rfl (yv_assign rfl) (ops_nil (thn_n (seq (region (ops_y hH189 rfl rfl (yv_move rfl) ?_)))))
  refine op_fn rfl rfl rfl hH189 ((by have h := c48 (Heap.rdw T.el22_encI hH189 (n := 22) rfl) (by decide); simp only [K.be] at h; exact h)) (fun u192 w190 lo193 hi194 hH191 hv195 => ?_)
  obtain ⟨p197, hu, -⟩ := hv195
  subst hu
  have hH196 := Heap.tup2 hH191 (n := 0) rfl
  refine ops_y hH196 rfl rfl (yv_move rfl) (ops_y hH196 rfl rfl (yv_extract rfl rfl) (ops_y hH196 rfl rfl (yv_extract rfl rfl) (ops_y hH196 rfl rfl (yv_assign rfl) (ops_y hH196 rfl rfl (yv_assign rfl) (ops_nil (thn_n (seq (region (ops_y hH196 rfl rfl (yv_move rfl) ?_)))))))))
  refine op_fnV rfl rfl rfl hH196 ((by have h := c50 (Heap.rdw T.el22_encI hH196 (n := 23) rfl) (by decide); simp only [K.sn] at h; exact h)) (fun w198 hH199 => ?_)
  refine ops_y hH199 rfl rfl (yv_move rfl) (ops_y hH199 rfl rfl (yv_extract rfl rfl) (ops_y hH199 rfl rfl (yv_extract rfl rfl) ?_))
  refine op_alloc (z := (.agg #[(.int .i64 0), (.int .i64 0)])) (us := [(.int .i64 0), (.int .i64 0)]) (fun _ => by kernel_rfl) rfl rfl hH199 (fun b200 w201 hH202 => ?_)
  refine op_store (n := 0) (j := 0) (us := [(.int .i64 1), (.int .i64 2)]) rfl rfl hH202 rfl T.sz50 rfl rfl rfl (by rfl) (fun w203 hH204 => ?_)
  refine ops_y hH204 rfl rfl (yv_assign rfl) (ops_nil (thn_n (seq (region (ops_y hH204 rfl rfl (yv_move rfl) ?_)))))
  refine op_fnV rfl rfl rfl hH204 ((by have h := c52 (Heap.rdw T.el22_encI hH204 (n := 24) rfl) (by decide); simp only [K.co] at h; exact h)) (fun w205 hH206 => ?_)
  refine ops_y hH206 rfl rfl (yv_move rfl) (ops_y hH206 rfl rfl (yv_extract rfl rfl) (ops_y hH206 rfl rfl (yv_extract rfl rfl) (ops_y hH206 rfl rfl (yv_assign rfl) (ops_y hH206 rfl rfl (yv_assign rfl) (ops_nil (thn_n (seq (region ?_))))))))
  refine op_lit (us := [(0, (.int .i64 1)), (1, (.int .i64 (-1))), (2, (.int .i64 1))]) T.el22_encI [1, (-1), 1] rfl (by decide) rfl (fun a ha => by simp [ha.ev (show ev _ (.const (.int .i64 1)) = some _ from rfl), ha.ev (show ev _ (.const (.int .i64 (-1))) = some _ from rfl), ha.ev (show ev _ (.const (.int .i64 1)) = some _ from rfl)]) (fun w => by kernel_rfl) hH206 (fun u207 lo209 hi210 w208 hH211 => ?_)
  refine op_fnV rfl rfl rfl hH211 (c69) (fun w212 hH213 => ?_)
  refine op_fnV rfl rfl rfl hH213 ((by have h := c54 (Heap.rdw T.el22_encI hH213 (n := 0) rfl) (by decide); simp only [K.ck] at h; exact h)) (fun w214 hH215 => ?_)
  refine ops_y hH215 rfl rfl (yv_assign rfl) (ops_nil (thn_n (seq (seq (region (ops_y hH215 rfl rfl (yv_move rfl) ?_))))))
  refine ops_y hH215 rfl rfl (yv_castB rfl (yv_neq rfl rfl)) ?_
  refine ops_y hH215 rfl rfl (yv_move rfl) (guard_yes rfl rfl rfl (ops_y hH215 rfl rfl (yv_move rfl) (guard_yes rfl rfl rfl ?_)))
  refine ops_y hH215 rfl rfl (yv_castB rfl (yv_neq rfl rfl)) ?_
  refine ops_y hH215 rfl rfl (yv_pick_f rfl rfl rfl) ?_
  refine ops_y hH215 rfl rfl (yv_move rfl) (guard_yes rfl rfl rfl (ops_y hH215 rfl rfl (yv_move rfl) (guard_yes rfl rfl rfl ?_)))
  refine ops_y hH215 rfl rfl (yv_castB rfl (yv_neq rfl rfl)) ?_
  refine ops_y hH215 rfl rfl (yv_pick_f rfl rfl rfl) ?_
  refine ops_y hH215 rfl rfl (yv_move rfl) (guard_yes rfl rfl rfl (ops_y hH215 rfl rfl (yv_move rfl) (guard_yes rfl rfl rfl ?_)))
  refine ops_y hH215 rfl rfl (yv_castB rfl (yv_neq rfl rfl)) ?_
  refine ops_y hH215 rfl rfl (yv_pick_f rfl rfl rfl) ?_
  refine ops_y hH215 rfl rfl (yv_move rfl) (guard_yes rfl rfl rfl (ops_y hH215 rfl rfl (yv_move rfl) (guard_yes rfl rfl rfl ?_)))
  refine ops_y hH215 rfl rfl (yv_castB rfl (yv_neq rfl rfl)) ?_
  refine ops_y hH215 rfl rfl (yv_pick_f rfl rfl rfl) ?_
  refine ops_y hH215 rfl rfl (yv_move rfl) (guard_yes rfl rfl rfl (ops_y hH215 rfl rfl (yv_move rfl) (guard_yes rfl rfl rfl ?_)))
  refine ops_y hH215 rfl rfl (yv_castB rfl (yv_neq rfl rfl)) ?_
  refine ops_y hH215 rfl rfl (yv_pick_f rfl rfl rfl) ?_
  refine ops_y hH215 rfl rfl (yv_move rfl) (guard_yes rfl rfl rfl (ops_y hH215 rfl rfl (yv_move rfl) (guard_yes rfl rfl rfl ?_)))
  refine ops_y hH215 rfl rfl (yv_castB rfl (yv_neq rfl rfl)) ?_
  refine ops_y hH215 rfl rfl (yv_pick_f rfl rfl rfl) ?_
  refine ops_y hH215 rfl rfl (yv_move rfl) (guard_yes rfl rfl rfl (ops_y hH215 rfl rfl (yv_move rfl) (guard_yes rfl rfl rfl ?_)))
  refine ops_y hH215 rfl rfl (yv_castB rfl (yv_neq rfl rfl)) ?_
  refine ops_y hH215 rfl rfl (yv_pick_f rfl rfl rfl) ?_
  refine ops_y hH215 rfl rfl (yv_move rfl) (guard_yes rfl rfl rfl (ops_y hH215 rfl rfl (yv_move rfl) (guard_yes rfl rfl rfl ?_)))
  refine ops_y hH215 rfl rfl (yv_castB rfl (yv_neq rfl rfl)) ?_
  refine ops_y hH215 rfl rfl (yv_pick_f rfl rfl rfl) ?_
  refine ops_y hH215 rfl rfl (yv_move rfl) (guard_yes rfl rfl rfl (ops_y hH215 rfl rfl (yv_move rfl) (guard_yes rfl rfl rfl ?_)))
  refine ops_y hH215 rfl rfl (yv_castB rfl (yv_neq rfl rfl)) ?_
  refine ops_y hH215 rfl rfl (yv_pick_f rfl rfl rfl) ?_
  refine ops_y hH215 rfl rfl (yv_move rfl) (guard_yes rfl rfl rfl (ops_y hH215 rfl rfl (yv_move rfl) (guard_yes rfl rfl rfl ?_)))
  refine ops_y hH215 rfl rfl (yv_castB rfl (yv_neq rfl rfl)) ?_
  refine ops_y hH215 rfl rfl (yv_pick_f rfl rfl rfl) ?_
  refine ops_y hH215 rfl rfl (yv_move rfl) (guard_yes rfl rfl rfl (ops_y hH215 rfl rfl (yv_move rfl) (guard_yes rfl rfl rfl ?_)))
  refine ops_y hH215 rfl rfl (yv_castB rfl (yv_neq rfl rfl)) ?_
  refine ops_y hH215 rfl rfl (yv_pick_f rfl rfl rfl) ?_
  refine ops_y hH215 rfl rfl (yv_move rfl) (guard_yes rfl rfl rfl (ops_y hH215 rfl rfl (yv_move rfl) (guard_yes rfl rfl rfl ?_)))
  refine ops_y hH215 rfl rfl (yv_castB rfl (yv_neq rfl rfl)) ?_
  refine ops_y hH215 rfl rfl (yv_pick_f rfl rfl rfl) ?_
  refine ops_y hH215 rfl rfl (yv_move rfl) (guard_yes rfl rfl rfl (ops_y hH215 rfl rfl (yv_move rfl) (guard_yes rfl rfl rfl ?_)))
  refine ops_y hH215 rfl rfl (yv_castB rfl (yv_neq rfl rfl)) ?_
  refine ops_y hH215 rfl rfl (yv_pick_f rfl rfl rfl) ?_
  refine ops_y hH215 rfl rfl (yv_move rfl) (guard_yes rfl rfl rfl (ops_y hH215 rfl rfl (yv_move rfl) (guard_yes rfl rfl rfl ?_)))
  refine ops_y hH215 rfl rfl (yv_castB rfl (yv_neq rfl rfl)) ?_
  refine ops_y hH215 rfl rfl (yv_pick_f rfl rfl rfl) ?_
  refine ops_y hH215 rfl rfl (yv_move rfl) (guard_yes rfl rfl rfl (ops_y hH215 rfl rfl (yv_move rfl) (guard_yes rfl rfl rfl ?_)))
  refine ops_y hH215 rfl rfl (yv_castB rfl (yv_neq rfl rfl)) ?_
  refine ops_y hH215 rfl rfl (yv_pick_f rfl rfl rfl) ?_
  refine ops_y hH215 rfl rfl (yv_move rfl) (guard_yes rfl rfl rfl (ops_y hH215 rfl rfl (yv_move rfl) (guard_yes rfl rfl rfl ?_)))
  refine ops_y hH215 rfl rfl (yv_castB rfl (yv_neq rfl rfl)) ?_
  refine ops_y hH215 rfl rfl (yv_pick_f rfl rfl rfl) ?_
  refine ops_y hH215 rfl rfl (yv_move rfl) (guard_yes rfl rfl rfl (ops_y hH215 rfl rfl (yv_move rfl) (guard_yes rfl rfl rfl ?_)))
  refine ops_y hH215 rfl rfl (yv_castB rfl (yv_neq rfl rfl)) ?_
  refine ops_y hH215 rfl rfl (yv_pick_f rfl rfl rfl) ?_
  refine ops_y hH215 rfl rfl (yv_move rfl) (guard_yes rfl rfl rfl (ops_y hH215 rfl rfl (yv_move rfl) (guard_yes rfl rfl rfl ?_)))
  refine ops_y hH215 rfl rfl (yv_castB rfl (yv_neq rfl rfl)) ?_
  refine ops_y hH215 rfl rfl (yv_pick_f rfl rfl rfl) ?_
  refine ops_y hH215 rfl rfl (yv_move rfl) (guard_yes rfl rfl rfl (ops_y hH215 rfl rfl (yv_move rfl) (guard_yes rfl rfl rfl ?_)))
  refine ops_y hH215 rfl rfl (yv_castB rfl (yv_neq rfl rfl)) ?_
  refine ops_y hH215 rfl rfl (yv_pick_f rfl rfl rfl) ?_
  refine ops_nil (thn_n ?_)
  refine cond_f rfl rfl ?_
  refine skip (thn_n (seq (seq (region (ops_y hH215 rfl rfl (yv_move rfl) ?_)))))
  refine op_lit (us := [(0, (.int .i64 0)), (1, (.int .i64 1)), (2, (.int .i64 2))]) T.el22_encI [0, 1, 2] rfl (by decide) rfl (fun a ha => by simp [ha.ev (show ev _ (.const (.int .i64 0)) = some _ from rfl), ha.ev (show ev _ (.const (.int .i64 1)) = some _ from rfl), ha.ev (show ev _ (.const (.int .i64 2)) = some _ from rfl)]) (fun w => by kernel_rfl) hH215 (fun u216 lo218 hi219 w217 hH220 => ?_)
  refine op_fnV rfl rfl rfl hH220 (c69) (fun w221 hH222 => ?_)
  refine op_lit (us := [(0, (.int .i64 3)), (1, (.int .i64 4))]) T.el22_encI [3, 4] rfl (by decide) rfl (fun a ha => by simp [ha.ev (show ev _ (.const (.int .i64 3)) = some _ from rfl), ha.ev (show ev _ (.const (.int .i64 4)) = some _ from rfl)]) (fun w => by kernel_rfl) hH222 (fun u223 lo225 hi226 w224 hH227 => ?_)
  refine op_fnV rfl rfl rfl hH227 (c69) (fun w228 hH229 => ?_)
  refine op_lit (us := [(0, (.int .i64 5))]) T.el22_encI [5] rfl (by decide) rfl (fun a ha => by simp [ha.ev (show ev _ (.const (.int .i64 5)) = some _ from rfl)]) (fun w => by kernel_rfl) hH229 (fun u230 lo232 hi233 w231 hH234 => ?_)
  refine op_fnV rfl rfl rfl hH234 (c69) (fun w235 hH236 => ?_)
  obtain ⟨s237, hs238⟩ := Heap.sv hH236 (n := 2) rfl (by simp)
  obtain ⟨s239, hs240⟩ := Heap.sv hH236 (n := 1) rfl (by simp)
  obtain ⟨s241, hs242⟩ := Heap.sv hH236 (n := 0) rfl (by simp)
  refine op_lit (us := [(0, u216), (1, u223), (2, u230)]) T.el25_encS [s237, s239, s241] rfl (by decide) rfl (fun a ha => by simp [ha.ev (show ev _ (.tmp 233) = some _ from rfl), ha.ev (show ev _ (.tmp 235) = some _ from rfl), ha.ev (show ev _ (.tmp 237) = some _ from rfl)]) (fun w => by rw [hs238, hs240, hs242]; kernel_rfl) hH236 (fun u243 lo245 hi246 w244 hH247 => ?_)
  refine op_fnV rfl rfl rfl hH247 (c71) (fun w248 hH249 => ?_)
  refine op_fnV rfl rfl rfl hH249 (c25 (show RowsAt p23 TT21 [[0, 1, 2], [3, 4], [5]] _ from hH249.get (n := 28) rfl) (RowsAt.three (Heap.rdw T.el25_encS hH249 (n := 0) rfl) (rd_hd (Heap.rdw T.el22_encI hH249 (n := 3) rfl) hs238) (rd_hd (Heap.rdw T.el22_encI hH249 (n := 2) rfl) hs240) (rd_hd (Heap.rdw T.el22_encI hH249 (n := 1) rfl) hs242)) (by decide) (by decide) (by decide) (by decide)) (fun w250 hH251 => ?_)
  refine ops_y hH251 rfl rfl (yv_castB (bnot_f (decide_eq_true rfl)) (yv_not rfl)) ?_
  refine ops_y hH251 rfl rfl (yv_move rfl) (guard_yes rfl rfl rfl (ops_y hH251 rfl rfl (yv_move rfl) (guard_yes rfl rfl rfl ?_)))
  refine ops_y hH251 rfl rfl (yv_build (v := (.agg #[(.int .i64 0), (.int .i64 1)])) (us := [(0, (.int .i64 0)), (1, (.int .i64 1))]) (fun a ha => by simp [ha.ev (show ev _ (.const (.int .i64 0)) = some _ from rfl), ha.ev (show ev _ (.const (.int .i64 1)) = some _ from rfl)]) (fun w => by kernel_rfl)) ?_
  refine guard_yes rfl rfl rfl ?_
  refine ops_y hH251 rfl rfl (yv_build (v := (.agg #[(.int .i64 0), (.int .i64 2)])) (us := [(0, (.int .i64 0)), (1, (.int .i64 2))]) (fun a ha => by simp [ha.ev (show ev _ (.const (.int .i64 0)) = some _ from rfl), ha.ev (show ev _ (.const (.int .i64 2)) = some _ from rfl)]) (fun w => by kernel_rfl)) ?_
  refine guard_yes rfl rfl rfl ?_
  refine ops_y hH251 rfl rfl (yv_build (v := (.agg #[(.int .i64 3), (.int .i64 4)])) (us := [(0, (.int .i64 3)), (1, (.int .i64 4))]) (fun a ha => by simp [ha.ev (show ev _ (.const (.int .i64 3)) = some _ from rfl), ha.ev (show ev _ (.const (.int .i64 4)) = some _ from rfl)]) (fun w => by kernel_rfl)) ?_
  refine guard_yes rfl rfl rfl ?_
  refine op_lit (us := [(0, (.agg #[(.int .i64 0), (.int .i64 1)])), (1, (.agg #[(.int .i64 0), (.int .i64 2)])), (2, (.agg #[(.int .i64 3), (.int .i64 4)]))]) T.el29_encP [(0, 1), (0, 2), (3, 4)] rfl (by decide) rfl (fun a ha => by simp [ha.ev (show ev _ (.tmp 244) = some _ from rfl), ha.ev (show ev _ (.tmp 245) = some _ from rfl), ha.ev (show ev _ (.tmp 246) = some _ from rfl)]) (fun w => by kernel_rfl) hH251 (fun u252 lo254 hi255 w253 hH256 => ?_)
  refine guard_yes rfl rfl rfl ?_
  refine op_fnV rfl rfl rfl hH256 (c68) (fun w257 hH258 => ?_)
  refine guard_yes rfl rfl rfl ?_
  refine op_fnV rfl rfl rfl hH258 (c26 (Heap.rdw T.el29_encP hH258 (n := 28) rfl) (Heap.rdw T.el29_encP hH258 (n := 0) rfl) (by decide) (by decide)) (fun w259 hH260 => ?_)
  refine guard_yes rfl rfl rfl ?_
  refine ops_y hH260 rfl rfl (yv_castB (bnot_f (decide_eq_true rfl)) (yv_not rfl)) ?_
  refine ops_y hH260 rfl rfl (yv_pick_f rfl rfl rfl) ?_
  refine ops_y hH260 rfl rfl (yv_move rfl) (guard_yes rfl rfl rfl (ops_y hH260 rfl rfl (yv_move rfl) (guard_yes rfl rfl rfl ?_)))
  refine ops_y hH260 rfl rfl (yv_build (v := (.agg #[(.int .i64 0), (.int .i64 2)])) (us := [(0, (.int .i64 0)), (1, (.int .i64 2))]) (fun a ha => by simp [ha.ev (show ev _ (.const (.int .i64 0)) = some _ from rfl), ha.ev (show ev _ (.const (.int .i64 2)) = some _ from rfl)]) (fun w => by kernel_rfl)) ?_
  refine guard_yes rfl rfl rfl ?_
  refine ops_y hH260 rfl rfl (yv_build (v := (.agg #[(.int .i64 1), (.int .i64 2)])) (us := [(0, (.int .i64 1)), (1, (.int .i64 2))]) (fun a ha => by simp [ha.ev (show ev _ (.const (.int .i64 1)) = some _ from rfl), ha.ev (show ev _ (.const (.int .i64 2)) = some _ from rfl)]) (fun w => by kernel_rfl)) ?_
  refine guard_yes rfl rfl rfl ?_
  refine ops_y hH260 rfl rfl (yv_build (v := (.agg #[(.int .i64 3), (.int .i64 4)])) (us := [(0, (.int .i64 3)), (1, (.int .i64 4))]) (fun a ha => by simp [ha.ev (show ev _ (.const (.int .i64 3)) = some _ from rfl), ha.ev (show ev _ (.const (.int .i64 4)) = some _ from rfl)]) (fun w => by kernel_rfl)) ?_
  refine guard_yes rfl rfl rfl ?_
  refine op_lit (us := [(0, (.agg #[(.int .i64 0), (.int .i64 2)])), (1, (.agg #[(.int .i64 1), (.int .i64 2)])), (2, (.agg #[(.int .i64 3), (.int .i64 4)]))]) T.el29_encP [(0, 2), (1, 2), (3, 4)] rfl (by decide) rfl (fun a ha => by simp [ha.ev (show ev _ (.tmp 254) = some _ from rfl), ha.ev (show ev _ (.tmp 255) = some _ from rfl), ha.ev (show ev _ (.tmp 256) = some _ from rfl)]) (fun w => by kernel_rfl) hH260 (fun u261 lo263 hi264 w262 hH265 => ?_)
  refine guard_yes rfl rfl rfl ?_
  refine op_fnV rfl rfl rfl hH265 (c68) (fun w266 hH267 => ?_)
  refine guard_yes rfl rfl rfl ?_
  refine op_fnV rfl rfl rfl hH267 (c26 (Heap.rdw T.el29_encP hH267 (n := 26) rfl) (Heap.rdw T.el29_encP hH267 (n := 0) rfl) (by decide) (by decide)) (fun w268 hH269 => ?_)
  refine guard_yes rfl rfl rfl ?_
  refine ops_y hH269 rfl rfl (yv_castB (bnot_f (decide_eq_true rfl)) (yv_not rfl)) ?_
  refine ops_y hH269 rfl rfl (yv_pick_f rfl rfl rfl) ?_
  refine ops_nil (thn_n ?_)
  refine cond_f rfl rfl ?_
  refine skip (thn_n (seq (region (ops_y hH269 rfl rfl (yv_move rfl) ?_))))
  refine op_lit (us := [(0, (.int .i64 1)), (1, (.int .i64 0)), (2, (.int .i64 3))]) T.el22_encI [1, 0, 3] rfl (by decide) rfl (fun a ha => by simp [ha.ev (show ev _ (.const (.int .i64 1)) = some _ from rfl), ha.ev (show ev _ (.const (.int .i64 0)) = some _ from rfl), ha.ev (show ev _ (.const (.int .i64 3)) = some _ from rfl)]) (fun w => by kernel_rfl) hH269 (fun u270 lo272 hi273 w271 hH274 => ?_)
  refine op_fnV rfl rfl rfl hH274 (c69) (fun w275 hH276 => ?_)
  refine op_fnV rfl rfl rfl hH276 (c33 (Heap.rdw T.el22_encI hH276 (n := 26) rfl) (Heap.rdw T.el22_encI hH276 (n := 0) rfl) (by decide) (by decide)) (fun w277 hH278 => ?_)
  refine ops_y hH278 rfl rfl (yv_move rfl) ?_
  refine guard_yes rfl rfl (decide_eq_true rfl) ?_
  refine ops_y hH278 rfl rfl (yv_move rfl) ?_
  refine guard_yes rfl rfl (decide_eq_true rfl) ?_
  refine ops_y hH278 rfl rfl (yv_castB rfl (yv_eql rfl rfl)) ?_
  refine ops_y hH278 rfl rfl (yv_pick_t rfl (decide_eq_true rfl) rfl) ?_
  refine ops_y hH278 rfl rfl (yv_move rfl) (guard_yes rfl rfl rfl (ops_y hH278 rfl rfl (yv_move rfl) (guard_yes rfl rfl rfl ?_)))
  refine op_lit (us := [(0, (.int .i64 2)), (1, (.int .i64 0)), (2, (.int .i64 1)), (3, (.int .i64 3)), (4, (.int .i64 4)), (5, (.int .i64 5))]) T.el22_encI [2, 0, 1, 3, 4, 5] rfl (by decide) rfl (fun a ha => by simp [ha.ev (show ev _ (.const (.int .i64 2)) = some _ from rfl), ha.ev (show ev _ (.const (.int .i64 0)) = some _ from rfl), ha.ev (show ev _ (.const (.int .i64 1)) = some _ from rfl), ha.ev (show ev _ (.const (.int .i64 3)) = some _ from rfl), ha.ev (show ev _ (.const (.int .i64 4)) = some _ from rfl), ha.ev (show ev _ (.const (.int .i64 5)) = some _ from rfl)]) (fun w => by kernel_rfl) hH278 (fun u279 lo281 hi282 w280 hH283 => ?_)
  refine guard_yes rfl rfl rfl ?_
  refine op_fnV rfl rfl rfl hH283 (c69) (fun w284 hH285 => ?_)
  refine guard_yes rfl rfl rfl ?_
  refine op_fnV rfl rfl rfl hH285 (c33 (Heap.rdw T.el22_encI hH285 (n := 26) rfl) (Heap.rdw T.el22_encI hH285 (n := 0) rfl) (by decide) (by decide)) (fun w286 hH287 => ?_)
  refine ops_y hH287 rfl rfl (yv_pick_t rfl rfl rfl) ?_
  refine ops_y hH287 rfl rfl (yv_move rfl) ?_
  refine guard_yes rfl rfl (decide_eq_true rfl) ?_
  refine ops_y hH287 rfl rfl (yv_move rfl) ?_
  refine guard_yes rfl rfl (decide_eq_true rfl) ?_
  refine op_lit (us := [(0, (.int .i64 2)), (1, (.int .i64 0)), (2, (.int .i64 1))]) T.el22_encI [2, 0, 1] rfl (by decide) rfl (fun a ha => by simp [ha.ev (show ev _ (.const (.int .i64 2)) = some _ from rfl), ha.ev (show ev _ (.const (.int .i64 0)) = some _ from rfl), ha.ev (show ev _ (.const (.int .i64 1)) = some _ from rfl)]) (fun w => by kernel_rfl) hH287 (fun u288 lo290 hi291 w289 hH292 => ?_)
  refine guard_yes rfl rfl (decide_eq_true rfl) ?_
  refine op_fnV rfl rfl rfl hH292 (c69) (fun w293 hH294 => ?_)
  refine guard_yes rfl rfl (decide_eq_true rfl) ?_
  refine op_fnV rfl rfl rfl hH294 (c33 (Heap.rdw T.el22_encI hH294 (n := 23) rfl) (Heap.rdw T.el22_encI hH294 (n := 0) rfl) (by decide) (by decide)) (fun w295 hH296 => ?_)
  refine ops_y hH296 rfl rfl (yv_pick_t rfl (decide_eq_true rfl) rfl) ?_
  refine ops_y hH296 rfl rfl (yv_move rfl) ?_
  refine guard_yes rfl rfl (decide_eq_true rfl) ?_
  refine ops_y hH296 rfl rfl (yv_move rfl) ?_
  refine guard_yes rfl rfl (decide_eq_true rfl) ?_
  refine op_lit (us := [(0, (.int .i64 1)), (1, (.int .i64 2)), (2, (.int .i64 0))]) T.el22_encI [1, 2, 0] rfl (by decide) rfl (fun a ha => by simp [ha.ev (show ev _ (.const (.int .i64 1)) = some _ from rfl), ha.ev (show ev _ (.const (.int .i64 2)) = some _ from rfl), ha.ev (show ev _ (.const (.int .i64 0)) = some _ from rfl)]) (fun w => by kernel_rfl) hH296 (fun u297 lo299 hi300 w298 hH301 => ?_)
  refine guard_yes rfl rfl (decide_eq_true rfl) ?_
  refine op_fnV rfl rfl rfl hH301 (c69) (fun w302 hH303 => ?_)
  refine guard_yes rfl rfl (decide_eq_true rfl) ?_
  refine op_fnV rfl rfl rfl hH303 (c33 (Heap.rdw T.el22_encI hH303 (n := 19) rfl) (Heap.rdw T.el22_encI hH303 (n := 0) rfl) (by decide) (by decide)) (fun w304 hH305 => ?_)
  refine ops_y hH305 rfl rfl (yv_pick_t rfl (decide_eq_true rfl) rfl) ?_
  refine ops_y hH305 rfl rfl (yv_move rfl) ?_
  refine guard_yes rfl rfl (decide_eq_true rfl) ?_
  refine ops_y hH305 rfl rfl (yv_move rfl) ?_
  refine guard_yes rfl rfl (decide_eq_true rfl) ?_
  refine op_lit (us := [(0, (.int .i64 2)), (1, (.int .i64 3)), (2, (.int .i64 1)), (3, (.int .i64 0))]) T.el22_encI [2, 3, 1, 0] rfl (by decide) rfl (fun a ha => by simp [ha.ev (show ev _ (.const (.int .i64 2)) = some _ from rfl), ha.ev (show ev _ (.const (.int .i64 3)) = some _ from rfl), ha.ev (show ev _ (.const (.int .i64 1)) = some _ from rfl), ha.ev (show ev _ (.const (.int .i64 0)) = some _ from rfl)]) (fun w => by kernel_rfl) hH305 (fun u306 lo308 hi309 w307 hH310 => ?_)
  refine guard_yes rfl rfl (decide_eq_true rfl) ?_
  refine op_fnV rfl rfl rfl hH310 (c69) (fun w311 hH312 => ?_)
  refine guard_yes rfl rfl (decide_eq_true rfl) ?_
  refine op_fnV rfl rfl rfl hH312 (c33 (Heap.rdw T.el22_encI hH312 (n := 15) rfl) (Heap.rdw T.el22_encI hH312 (n := 0) rfl) (by decide) (by decide)) (fun w313 hH314 => ?_)
  refine ops_y hH314 rfl rfl (yv_pick_t rfl (decide_eq_true rfl) rfl) ?_
  refine ops_y hH314 rfl rfl (yv_move rfl) ?_
  refine guard_yes rfl rfl (decide_eq_true rfl) ?_
  refine ops_y hH314 rfl rfl (yv_move rfl) ?_
  refine guard_yes rfl rfl (decide_eq_true rfl) ?_
  refine ops_y hH314 rfl rfl (yv_castB rfl (yv_eql rfl rfl)) ?_
  refine ops_y hH314 rfl rfl (yv_pick_t rfl (decide_eq_true rfl) rfl) ?_
  refine ops_y hH314 rfl rfl (yv_move rfl) (guard_yes rfl rfl rfl (ops_y hH314 rfl rfl (yv_move rfl) (guard_yes rfl rfl rfl ?_)))
  refine op_lit (us := [(0, (.int .i64 1)), (1, (.int .i64 0)), (2, (.int .i64 2)), (3, (.int .i64 3))]) T.el22_encI [1, 0, 2, 3] rfl (by decide) rfl (fun a ha => by simp [ha.ev (show ev _ (.const (.int .i64 1)) = some _ from rfl), ha.ev (show ev _ (.const (.int .i64 0)) = some _ from rfl), ha.ev (show ev _ (.const (.int .i64 2)) = some _ from rfl), ha.ev (show ev _ (.const (.int .i64 3)) = some _ from rfl)]) (fun w => by kernel_rfl) hH314 (fun u315 lo317 hi318 w316 hH319 => ?_)
  refine guard_yes rfl rfl rfl ?_
  refine op_fnV rfl rfl rfl hH319 (c69) (fun w320 hH321 => ?_)
  refine guard_yes rfl rfl rfl ?_
  refine op_fnV rfl rfl rfl hH321 (c33 (Heap.rdw T.el22_encI hH321 (n := 14) rfl) (Heap.rdw T.el22_encI hH321 (n := 0) rfl) (by decide) (by decide)) (fun w322 hH323 => ?_)
  refine ops_y hH323 rfl rfl (yv_pick_t rfl rfl rfl) ?_
  refine ops_y hH323 rfl rfl (yv_move rfl) ?_
  refine guard_yes rfl rfl (decide_eq_true rfl) ?_
  refine ops_y hH323 rfl rfl (yv_loadA (cs := [(.int .i64 1), (.int .i64 2)]) T.agg50 rfl rfl (fun _ hw => Heap.cellsw hw (n := 13) rfl (k := 0) rfl)) ?_
  refine guard_yes rfl rfl (decide_eq_true rfl) ?_
  refine ops_y hH323 rfl rfl (yv_build (v := (.agg #[(.int .i64 1), (.int .i64 2)])) (us := [(0, (.int .i64 1)), (1, (.int .i64 2))]) (fun a ha => by simp [ha.ev (show ev _ (.const (.int .i64 1)) = some _ from rfl), ha.ev (show ev _ (.const (.int .i64 2)) = some _ from rfl)]) (fun w => by kernel_rfl)) ?_
  refine guard_yes rfl rfl (decide_eq_true rfl) ?_
  refine ops_y hH323 rfl rfl (yv_castB (decide_eq_true rfl) (yv_eqA (a := [1, 2]) (b := [1, 2]) T.eqi50 rfl rfl rfl rfl)) ?_
  refine ops_y hH323 rfl rfl (yv_pick_t rfl (decide_eq_true rfl) rfl) ?_
  refine ops_y hH323 rfl rfl (yv_move rfl) (guard_yes rfl rfl rfl (ops_y hH323 rfl rfl (yv_move rfl) (guard_yes rfl rfl rfl ?_)))
  refine ops_y hH323 rfl rfl (yv_castB rfl (yv_eql rfl rfl)) ?_
  refine ops_y hH323 rfl rfl (yv_pick_t rfl rfl rfl) ?_
  refine ops_y hH323 rfl rfl (yv_assign rfl) (ops_nil (thn_n (ret ?_)))
  have hH324 := (hH323.sub (List.Sublist.cons _ (List.Sublist.cons _ (List.Sublist.cons _ (List.Sublist.cons _ (List.Sublist.cons _ (List.Sublist.cons _ (List.Sublist.cons _ (List.Sublist.cons _ (List.Sublist.cons _ (List.Sublist.cons _ (List.Sublist.cons _ (List.Sublist.cons _ (List.Sublist.cons _ (List.Sublist.cons _ (List.Sublist.cons _ (List.Sublist.cons _ (List.Sublist.cons _ (List.Sublist.cons _ (List.Sublist.cons _ (List.Sublist.cons _ (List.Sublist.cons _ (List.Sublist.cons _ (List.Sublist.cons _ (List.Sublist.cons _ (List.Sublist.cons _ (List.Sublist.cons _ (List.Sublist.cons _ (List.Sublist.cons _ (List.Sublist.cons _ (List.Sublist.cons _ (List.Sublist.cons _ (List.Sublist.cons _ (List.Sublist.cons _ (List.Sublist.cons _ (List.Sublist.cons _ (List.Sublist.cons _ (List.Sublist.cons _ (List.Sublist.cons _ (List.Sublist.cons _ (List.Sublist.refl _)))))))))))))))))))))))))))))))))))))))))
  refine fin hH324 (fun w' hf => (res1 rfl (show RV _ _ _ (.tmp 0) _ from rfl))) (fun w' hf => ?_)
  rfl

end Go.Fip
