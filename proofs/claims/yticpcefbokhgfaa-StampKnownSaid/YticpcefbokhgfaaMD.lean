/- Joined texts: Ty, Wa, Wb, Wc, Wd, We, Wf, Wg, Wh, Wi, Wj. -/
import Derived.Test.YticpcefbokhgfaaMA
import Derived.Test.YticpcefbokhgfaaProg
import Derived.Test.YticpcefbokhgfaaMC
import Derived.Test.YticpcefbokhgfaaMB
namespace Go.Fip
open Go.Proofs
namespace T
theorem mixed : Try.prog.follows .mixedOrders = true := by kernel_rfl
theorem sz2 : (Try.prog.info? 2).map (·.size) = some 1 := by kernel_rfl
theorem one2 : TOne Try.prog 2 := fun _ => by kernel_rfl
theorem sz3 : (Try.prog.info? 3).map (·.size) = some 1 := by kernel_rfl
theorem one3 : TOne Try.prog 3 := fun _ => by kernel_rfl
theorem sz4 : (Try.prog.info? 4).map (·.size) = some 1 := by kernel_rfl
theorem one4 : TOne Try.prog 4 := fun _ => by kernel_rfl
theorem sz5 : (Try.prog.info? 5).map (·.size) = some 1 := by kernel_rfl
theorem one5 : TOne Try.prog 5 := fun _ => by kernel_rfl
theorem sz22 : (Try.prog.info? 22).map (·.size) = some 1 := by kernel_rfl
theorem sl22 : TSlice Try.prog 22 3 1 := ⟨by kernel_rfl, by kernel_rfl⟩
theorem one22 : TOne Try.prog 22 := fun _ => by kernel_rfl
theorem one23 : TOne Try.prog 23 := fun _ => by kernel_rfl
theorem sz25 : (Try.prog.info? 25).map (·.size) = some 1 := by kernel_rfl
theorem sl25 : TSlice Try.prog 25 22 1 := ⟨by kernel_rfl, by kernel_rfl⟩
theorem one25 : TOne Try.prog 25 := fun _ => by kernel_rfl
theorem sz26 : (Try.prog.info? 26).map (·.size) = some 1 := by kernel_rfl
theorem one26 : TOne Try.prog 26 := fun _ => by kernel_rfl
theorem sz29 : (Try.prog.info? 29).map (·.size) = some 1 := by kernel_rfl
theorem sl29 : TSlice Try.prog 29 70 2 := ⟨by kernel_rfl, by kernel_rfl⟩
theorem one29 : TOne Try.prog 29 := fun _ => by kernel_rfl
theorem sz49 : (Try.prog.info? 49).map (·.size) = some 2 := by kernel_rfl
theorem agg49 : TAgg Try.prog 49 2 := ⟨fun _ => by kernel_rfl, by kernel_rfl⟩
theorem f49_0 : TField Try.prog 49 0 0 := tfield_of Try.underlying49 rfl rfl ⟨0, by kernel_rfl⟩
theorem f49_1 : TField Try.prog 49 1 1 := tfield_of Try.underlying49 rfl rfl ⟨0, by kernel_rfl⟩
theorem sz50 : (Try.prog.info? 50).map (·.size) = some 2 := by kernel_rfl
theorem agg50 : TAgg Try.prog 50 2 := ⟨fun _ => by kernel_rfl, by kernel_rfl⟩
theorem f50_0 : TField Try.prog 50 0 0 := tfield_of Try.underlying50 rfl rfl ⟨0, by kernel_rfl⟩
theorem f50_1 : TField Try.prog 50 1 1 := tfield_of Try.underlying50 rfl rfl ⟨0, by kernel_rfl⟩
theorem sz53 : (Try.prog.info? 53).map (·.size) = some 1 := by kernel_rfl
theorem sl53 : TSlice Try.prog 53 5 1 := ⟨by kernel_rfl, by kernel_rfl⟩
theorem one53 : TOne Try.prog 53 := fun _ => by kernel_rfl
theorem one55 : TOne Try.prog 55 := fun _ => by kernel_rfl
theorem sz58 : (Try.prog.info? 58).map (·.size) = some 1 := by kernel_rfl
theorem one58 : TOne Try.prog 58 := fun _ => by kernel_rfl
theorem sz66 : (Try.prog.info? 66).map (·.size) = some 1 := by kernel_rfl
theorem one66 : TOne Try.prog 66 := fun _ => by kernel_rfl
theorem sz70 : (Try.prog.info? 70).map (·.size) = some 2 := by kernel_rfl
theorem arr70 : TArr Try.prog 70 2 3 1 := ⟨by kernel_rfl, by kernel_rfl⟩
theorem agg70 : TAgg Try.prog 70 2 := ⟨fun _ => by kernel_rfl, by kernel_rfl⟩
theorem sz73 : (Try.prog.info? 73).map (·.size) = some 1 := by kernel_rfl
theorem one73 : TOne Try.prog 73 := fun _ => by kernel_rfl
theorem one77 : TOne Try.prog 77 := fun _ => by kernel_rfl
theorem one78 : TOne Try.prog 78 := fun _ => by kernel_rfl
theorem one83 : TOne Try.prog 83 := fun _ => by kernel_rfl
theorem sz86 : (Try.prog.info? 86).map (·.size) = some 1 := by kernel_rfl
theorem agg86 : TAgg Try.prog 86 1 := ⟨fun _ => by kernel_rfl, by kernel_rfl⟩
theorem f86_0 : TField Try.prog 86 0 0 := tfield_of Try.underlying86 rfl rfl ⟨0, by kernel_rfl⟩
theorem sz87 : (Try.prog.info? 87).map (·.size) = some 1 := by kernel_rfl
theorem agg87 : TAgg Try.prog 87 1 := ⟨fun _ => by kernel_rfl, by kernel_rfl⟩
theorem f87_0 : TField Try.prog 87 0 0 := tfield_of Try.underlying87 rfl rfl ⟨0, by kernel_rfl⟩
theorem sz88 : (Try.prog.info? 88).map (·.size) = some 1 := by kernel_rfl
theorem agg88 : TAgg Try.prog 88 1 := ⟨fun _ => by kernel_rfl, by kernel_rfl⟩
theorem f88_0 : TField Try.prog 88 0 0 := tfield_of Try.underlying88 rfl rfl ⟨0, by kernel_rfl⟩
theorem sz89 : (Try.prog.info? 89).map (·.size) = some 1 := by kernel_rfl
theorem agg89 : TAgg Try.prog 89 1 := ⟨fun _ => by kernel_rfl, by kernel_rfl⟩
theorem f89_0 : TField Try.prog 89 0 0 := tfield_of Try.underlying89 rfl rfl ⟨0, by kernel_rfl⟩
theorem one93 : TOne Try.prog 93 := fun _ => by kernel_rfl
theorem sz99 : (Try.prog.info? 99).map (·.size) = some 11 := by kernel_rfl
theorem arr99 : TArr Try.prog 99 11 3 1 := ⟨by kernel_rfl, by kernel_rfl⟩
theorem agg99 : TAgg Try.prog 99 11 := ⟨fun _ => by kernel_rfl, by kernel_rfl⟩
theorem sz100 : (Try.prog.info? 100).map (·.size) = some 11 := by kernel_rfl
theorem arr100 : TArr Try.prog 100 11 3 1 := ⟨by kernel_rfl, by kernel_rfl⟩
theorem agg100 : TAgg Try.prog 100 11 := ⟨fun _ => by kernel_rfl, by kernel_rfl⟩
theorem sz112 : (Try.prog.info? 112).map (·.size) = some 1 := by kernel_rfl
theorem one112 : TOne Try.prog 112 := fun _ => by kernel_rfl
theorem sz113 : (Try.prog.info? 113).map (·.size) = some 1 := by kernel_rfl
theorem agg113 : TAgg Try.prog 113 1 := ⟨fun _ => by kernel_rfl, by kernel_rfl⟩
theorem f113_0 : TField Try.prog 113 0 0 := tfield_of Try.underlying113 rfl rfl ⟨0, by kernel_rfl⟩
theorem sz114 : (Try.prog.info? 114).map (·.size) = some 1 := by kernel_rfl
theorem agg114 : TAgg Try.prog 114 1 := ⟨fun _ => by kernel_rfl, by kernel_rfl⟩
theorem f114_0 : TField Try.prog 114 0 0 := tfield_of Try.underlying114 rfl rfl ⟨0, by kernel_rfl⟩
theorem sz116 : (Try.prog.info? 116).map (·.size) = some 1 := by kernel_rfl
theorem one116 : TOne Try.prog 116 := fun _ => by kernel_rfl
theorem sz121 : (Try.prog.info? 121).map (·.size) = some 1 := by kernel_rfl
theorem one121 : TOne Try.prog 121 := fun _ => by kernel_rfl
theorem el22_encI : El Try.prog 22 3 1 encI := el_of (z := (.int .i64 0)) (bytes := 8) (by kernel_rfl) (by kernel_rfl) rfl rfl rfl (fun _ => rfl) (by simp [encI, Value.oneCell'])
theorem el29_encP : El Try.prog 29 70 2 encP := el_of (z := (.agg #[(.int .i64 0), (.int .i64 0)])) (bytes := 16) (by kernel_rfl) (by kernel_rfl) rfl rfl rfl (fun _ => rfl) (by simp [encP, Value.oneCell'])
theorem el53_encB : El Try.prog 53 5 1 encB := el_of (z := (.int .u8 0)) (bytes := 1) (by kernel_rfl) (by kernel_rfl) rfl rfl rfl (fun _ => rfl) (by simp [encB, Value.oneCell'])
theorem eqi50 : EqI Try.prog 50 2 := eqi_struct' (by kernel_rfl) (by kernel_rfl) (by kernel_rfl) (by kernel_rfl) (by kernel_rfl)
theorem eqi70 : EqI Try.prog 70 2 := eqi_arr2 (i := Try.t3) Try.underlying70 (by kernel_rfl) (by kernel_rfl) (fun _ => by kernel_rfl) (by kernel_rfl) (by kernel_rfl)
theorem m112 : MapT Try.prog 112 114 3 (fun n : Int => .agg #[.int .i64 n]) (fun n : Int => .int .i64 n) 0 := mapT_one' (by kernel_rfl) Try.underlying114 (by kernel_rfl) (by kernel_rfl) (by kernel_rfl) (fun _ => by kernel_rfl)
theorem z22_encI : ∀ i, Try.prog.info? 3 = some i → i.zero.map (·.cells.toList) = some (encI 0) := z_of (z := (.int .i64 0)) (by kernel_rfl) rfl
theorem z29_encP : ∀ i, Try.prog.info? 70 = some i → i.zero.map (·.cells.toList) = some (encP (0, 0)) := z_of (z := (.agg #[(.int .i64 0), (.int .i64 0)])) (by kernel_rfl) rfl
end T
end Go.Fip

set_option linter.unusedVariables false
set_option linter.unusedSimpArgs false
set_option linter.unusedSectionVars false
set_option linter.unnecessarySimpa false
namespace Go.Fip
open Go.Proofs Go.RowKit

theorem c17 {v : Value} {l : List Int} {w : World} (h0 : Rd encI 1 v l w)  :
    Fn Try.prog 17 [v].toArray w (fun u _ => u = .bool (decide (16 < (l.length : Int)))) := by
  refine fn_of' (args := [v]) Try.func17 rfl (ent Try.func17 (by kernel_rfl) rfl) rfl rfl (fun hH => ?_)
  refine seq (region (ops_y hH rfl rfl (yv_assign rfl) (ops_nil (thn_n (seq (region (ops_y hH rfl rfl (yv_move rfl) ?_)))))))
  refine ops_y hH rfl rfl (yv_len T.sl22 rfl (h0.now hH (n := 0) rfl).is) ?_
  refine ops_y hH rfl rfl (yv_gtr rfl rfl) ?_
  refine ops_y hH rfl rfl (yv_assign rfl) (ops_nil (thn_n (ret ?_)))
  refine fin hH (fun w' hf => (res1 rfl (show RV _ _ _ (.tmp 2) _ from rfl))) (fun w' hf => ?_)
  rfl

theorem c78 {v : Value} {l : List Int} {a : Int} {w : World} (h0 : Rd encI 1 v l w) (hn : l.length ≤ 1000000)  :
    Fn Try.prog 78 [v, (.int .i64 a)].toArray w (fun u _ => u = .int .i64 (S.check l a)) := by
  refine fn_of' (args := [v, (.int .i64 a)]) Try.func78 rfl (ent Try.func78 (by kernel_rfl) rfl) rfl rfl (fun hH => ?_)
  refine seq (region (ops_y hH rfl rfl (yv_assign rfl) (ops_nil (thn_n (seq (seq (region (ops_y hH rfl rfl (yv_move rfl) ?_))))))))
  refine ops_y hH rfl rfl (yv_len T.sl22 rfl (h0.now hH (n := 0) rfl).is) ?_
  refine ops_y hH rfl rfl (yv_lss rfl rfl) ?_
  refine ops_y hH rfl rfl (yv_move rfl) ?_
  by_cases hc1 : (l.length : Int) < 1
  · skip
    refine guard_no rfl rfl (decide_eq_true hc1) rfl ?_
    refine guard_no rfl rfl (decide_eq_true hc1) rfl ?_
    refine guard_no rfl rfl (decide_eq_true hc1) rfl ?_
    refine ops_y hH rfl rfl (yv_pick_t rfl (decide_eq_true hc1) rfl) ?_
    refine ops_nil (thn_n ?_)
    refine cond_t rfl rfl ?_
    refine seq (region (ops_y hH rfl rfl (yv_assign rfl) (ops_nil (thn_n (ret (thn_r ?_))))))
    refine fin hH (fun w' hf => (res1 rfl (show RV _ _ _ (.tmp 4) _ from rfl))) (fun w' hf => ?_)
    first | exact congrArg (Value.int .i64) (S.ck1 (by omega)).symm | exact congrArg (Value.int .i64) (S.ck2 (by omega) hno).symm | exact congrArg (Value.int .i64) (S.ck3 (by omega) hin hbad).symm | exact congrArg (Value.int .i64) (S.ck4 (by omega) hin (fun i hi => hall2 i (by omega))).symm
  · skip
    refine guard_yes rfl rfl (decide_eq_false hc1) ?_
    refine ops_y hH rfl rfl (yv_move rfl) ?_
    refine guard_yes rfl rfl (decide_eq_false hc1) ?_
    refine ops_y hH rfl rfl (yv_len T.sl22 rfl (h0.now hH (n := 0) rfl).is) ?_
    refine guard_yes rfl rfl (decide_eq_false hc1) ?_
    refine ops_y hH rfl rfl (yv_gtr rfl rfl) ?_
    refine ops_y hH rfl rfl (yv_pick_f rfl (decide_eq_false hc1) rfl) ?_
    refine ops_nil (thn_n ?_)
    by_cases hc2 : 10 < (l.length : Int)
    · skip
      refine cond_t rfl (decide_eq_true hc2) ?_
      refine seq (region (ops_y hH rfl rfl (yv_assign rfl) (ops_nil (thn_n (ret (thn_r ?_))))))
      refine fin hH (fun w' hf => (res1 rfl (show RV _ _ _ (.tmp 4) _ from rfl))) (fun w' hf => ?_)
      first | exact congrArg (Value.int .i64) (S.ck1 (by omega)).symm | exact congrArg (Value.int .i64) (S.ck2 (by omega) hno).symm | exact congrArg (Value.int .i64) (S.ck3 (by omega) hin hbad).symm | exact congrArg (Value.int .i64) (S.ck4 (by omega) hin (fun i hi => hall2 i (by omega))).symm
    · skip
      refine cond_f rfl (decide_eq_false hc2) ?_
      refine skip (thn_n (seq (seq (region (ops_y hH rfl rfl (yv_assign rfl) (ops_nil (thn_n (block ?_))))))))
      refine loop (S := Nat) (fun k => [(5, (.int .i64 (k : Int))), (0, v), (1, (.int .i64 a))]) (fun k w1 => Heap [base w] w1 ∧ k ≤ l.length ∧ ∀ i, i < k → a ≤ nth l (i : Int) ∧ nth l (i : Int) < (l.length : Int)) (fun k => l.length - k) (0) (Sub.cons rfl (Sub.cons rfl (Sub.cons rfl (Sub.nil _)))) ?_ ?_
      · exact ⟨hH, by omega, S.all_zero⟩
      · rintro k w3 ⟨hH4, hk, hall⟩
        show Holds _ _ _ _ _ [(5, (.int .i64 (k : Int))), (0, v), (1, (.int .i64 a))] _ _
        refine seq (seq (region (ops_y hH4 rfl rfl (yv_move rfl) (ops_y hH4 rfl rfl (yv_move rfl) ?_))))
        refine ops_y hH4 rfl rfl (yv_len T.sl22 rfl (h0.now hH4 (n := 0) rfl).is) ?_
        refine ops_y hH4 rfl rfl (yv_lss rfl rfl) ?_
        refine ops_nil (thn_n ?_)
        by_cases hc5 : (k : Int) < (l.length : Int)
        · skip
          refine cond_t rfl (decide_eq_true hc5) ?_
          refine skip (thn_n (seq (block (seq (region (ops_y hH4 rfl rfl (yv_move rfl) (ops_y hH4 rfl rfl (yv_move rfl) ?_)))))))
          refine ops_y hH4 rfl rfl (yv_index T.sl22 rfl rfl (h0.now hH4 (n := 0) rfl).is (by omega)) ?_
          refine ops_y hH4 rfl rfl (yv_load T.one3 rfl (fun _ hw => Rd.at (h0.now hw (n := 0) rfl) (i := (k : Int)) (by omega) (j := 0) rfl)) ?_
          refine ops_y hH4 rfl rfl (yv_move rfl) ?_
          refine ops_y hH4 rfl rfl (yv_lss rfl rfl) ?_
          refine ops_y hH4 rfl rfl (yv_move rfl) ?_
          by_cases hc6 : (nth l (k : Int)) < a
          · skip
            have hno : ¬ S.In a l := fun h => absurd (h k (by omega)) (by omega)
            refine guard_no rfl rfl (decide_eq_true hc6) rfl ?_
            refine guard_no rfl rfl (decide_eq_true hc6) rfl ?_
            refine guard_no rfl rfl (decide_eq_true hc6) rfl ?_
            refine guard_no rfl rfl (decide_eq_true hc6) rfl ?_
            refine guard_no rfl rfl (decide_eq_true hc6) rfl ?_
            refine guard_no rfl rfl (decide_eq_true hc6) rfl ?_
            refine guard_no rfl rfl (decide_eq_true hc6) rfl ?_
            refine ops_y hH4 rfl rfl (yv_pick_t rfl (decide_eq_true hc6) rfl) ?_
            refine ops_nil (thn_n ?_)
            refine cond_t rfl rfl ?_
            refine seq (region (ops_y hH4 rfl rfl (yv_assign rfl) (ops_nil (thn_n (ret (blk_r (thn_r (lp_r (blk_r ?_)))))))))
            refine thn_r ?_
            refine fin hH4 (fun w' hf => (res1 rfl (show RV _ _ _ (.tmp 4) _ from rfl))) (fun w' hf => ?_)
            first | exact congrArg (Value.int .i64) (S.ck1 (by omega)).symm | exact congrArg (Value.int .i64) (S.ck2 (by omega) hno).symm | exact congrArg (Value.int .i64) (S.ck3 (by omega) hin hbad).symm | exact congrArg (Value.int .i64) (S.ck4 (by omega) hin (fun i hi => hall2 i (by omega))).symm
          · skip
            refine guard_yes rfl rfl (decide_eq_false hc6) ?_
            refine ops_y hH4 rfl rfl (yv_move rfl) ?_
            refine guard_yes rfl rfl (decide_eq_false hc6) ?_
            refine ops_y hH4 rfl rfl (yv_move rfl) ?_
            refine guard_yes rfl rfl (decide_eq_false hc6) ?_
            refine ops_y hH4 rfl rfl (yv_index T.sl22 rfl rfl (h0.now hH4 (n := 0) rfl).is (by omega)) ?_
            refine guard_yes rfl rfl (decide_eq_false hc6) ?_
            refine ops_y hH4 rfl rfl (yv_load T.one3 rfl (fun _ hw => Rd.at (h0.now hw (n := 0) rfl) (i := (k : Int)) (by omega) (j := 0) rfl)) ?_
            refine guard_yes rfl rfl (decide_eq_false hc6) ?_
            refine ops_y hH4 rfl rfl (yv_move rfl) ?_
            refine guard_yes rfl rfl (decide_eq_false hc6) ?_
            refine ops_y hH4 rfl rfl (yv_len T.sl22 rfl (h0.now hH4 (n := 0) rfl).is) ?_
            refine guard_yes rfl rfl (decide_eq_false hc6) ?_
            refine ops_y hH4 rfl rfl (yv_geq rfl rfl) ?_
            refine ops_y hH4 rfl rfl (yv_pick_f rfl (decide_eq_false hc6) rfl) ?_
            refine ops_nil (thn_n ?_)
            by_cases hc7 : (l.length : Int) ≤ (nth l (k : Int))
            · skip
              have hno : ¬ S.In a l := fun h => absurd (h k (by omega)) (by omega)
              refine cond_t rfl (decide_eq_true hc7) ?_
              refine seq (region (ops_y hH4 rfl rfl (yv_assign rfl) (ops_nil (thn_n (ret (blk_r (thn_r (lp_r (blk_r ?_)))))))))
              refine thn_r ?_
              refine fin hH4 (fun w' hf => (res1 rfl (show RV _ _ _ (.tmp 4) _ from rfl))) (fun w' hf => ?_)
              first | exact congrArg (Value.int .i64) (S.ck1 (by omega)).symm | exact congrArg (Value.int .i64) (S.ck2 (by omega) hno).symm | exact congrArg (Value.int .i64) (S.ck3 (by omega) hin hbad).symm | exact congrArg (Value.int .i64) (S.ck4 (by omega) hin (fun i hi => hall2 i (by omega))).symm
            · skip
              refine cond_f rfl (decide_eq_false hc7) ?_
              refine skip (blk_n (thn_n (region (ops_y hH4 rfl rfl (yv_move rfl) ?_))))
              refine ops_y hH4 rfl rfl (yv_add rfl rfl (by omega)) ?_
              refine ops_y hH4 rfl rfl (yv_assign rfl) (ops_nil ?_)
              refine lp_n (k + 1) (Sub.cons rfl (Sub.cons rfl (Sub.cons rfl (Sub.nil _)))) ?_ ?_
              · exact ⟨hH4, by omega, S.all_snoc hall (by omega)⟩
              · first | (dsimp only; omega) | (show _ < _; omega)
        · skip
          have hin : S.In a l := fun i hi => hall i (by omega)
          refine cond_f rfl (decide_eq_false hc5) ?_
          refine exit (thn_x (lp_x (blk_here (thn_n (seq (seq (region (ops_y hH4 rfl rfl (yv_assign rfl) (ops_nil ?_)))))))))
          refine thn_n (block ?_)
          refine loop (S := Nat) (fun i => [(6, (.int .i64 (i : Int))), (0, v)]) (fun i w1 => Heap [base w] w1 ∧ i ≤ l.length ∧ ∀ i2, i2 < i → ∀ k, k < i2 → ¬ (nth l (k : Int) = nth l (i2 : Int) ∧ 0 ≤ nth l (i2 : Int))) (fun i => l.length - i) (0) (Sub.cons rfl (Sub.cons rfl (Sub.nil _))) ?_ ?_
          · exact ⟨hH4, by omega, S.all_zero⟩
          · rintro i w8 ⟨hH9, hi, hall2⟩
            show Holds _ _ _ _ _ [(6, (.int .i64 (i : Int))), (0, v)] _ _
            refine seq (seq (region (ops_y hH9 rfl rfl (yv_move rfl) (ops_y hH9 rfl rfl (yv_move rfl) ?_))))
            refine ops_y hH9 rfl rfl (yv_len T.sl22 rfl (h0.now hH9 (n := 0) rfl).is) ?_
            refine ops_y hH9 rfl rfl (yv_lss rfl rfl) ?_
            refine ops_nil (thn_n ?_)
            by_cases hc10 : (i : Int) < (l.length : Int)
            · skip
              refine cond_t rfl (decide_eq_true hc10) ?_
              refine skip (thn_n (seq (block (seq (region (ops_y hH9 rfl rfl (yv_assign rfl) (ops_nil (thn_n (block ?_)))))))))
              refine loop (S := Nat) (fun m => [(7, (.int .i64 (m : Int))), (0, v), (6, (.int .i64 (i : Int)))]) (fun m w1 => Heap [base w] w1 ∧ m ≤ i ∧ ∀ k, k < m → ¬ (nth l (k : Int) = nth l (i : Int) ∧ 0 ≤ nth l (i : Int))) (fun m => i - m) (0) (Sub.cons rfl (Sub.cons rfl (Sub.cons rfl (Sub.nil _)))) ?_ ?_
              · exact ⟨hH9, by omega, S.all_zero⟩
              · rintro m w11 ⟨hH12, hm, hall3⟩
                show Holds _ _ _ _ _ [(7, (.int .i64 (m : Int))), (0, v), (6, (.int .i64 (i : Int)))] _ _
                refine seq (seq (region (ops_y hH12 rfl rfl (yv_move rfl) (ops_y hH12 rfl rfl (yv_move rfl) ?_))))
                refine ops_y hH12 rfl rfl (yv_lss rfl rfl) ?_
                refine ops_nil (thn_n ?_)
                by_cases hc13 : (m : Int) < (i : Int)
                · skip
                  refine cond_t rfl (decide_eq_true hc13) ?_
                  refine skip (thn_n (seq (block (seq ?_))))
                  refine region_draw (fun w' => Heap [base w] w') T.mixed (fun w14 hr15 => ?_)
                  have hH16 := hH12.redrawn hr15
                  refine any_takes [0, 1, 2, 3, 4, 5, 6, 7, 8, 9] (by kernel_rfl) hH16 _ _ _ (by kernel_rfl) ?_
                  refine qs_y rfl rfl (yv_move rfl) (qs_y rfl rfl (yv_move rfl) ?_)
                  refine qs_y rfl rfl (yv_index T.sl22 rfl rfl (h0.now hH16 (n := 0) rfl).is (by omega)) ?_
                  refine qs_y rfl rfl (yv_load T.one3 rfl (fun _ hw => Rd.at (h0.now hw (n := 0) rfl) (i := (m : Int)) (by omega) (j := 0) rfl)) ?_
                  refine qs_y rfl rfl (yv_move rfl) (qs_y rfl rfl (yv_move rfl) ?_)
                  refine qs_y rfl rfl (yv_index T.sl22 rfl rfl (h0.now hH16 (n := 0) rfl).is (by omega)) ?_
                  refine qs_y rfl rfl (yv_load T.one3 rfl (fun _ hw => Rd.at (h0.now hw (n := 0) rfl) (i := (i : Int)) (by omega) (j := 0) rfl)) ?_
                  refine qs_y rfl rfl (yv_eql rfl rfl) ?_
                  refine qs_y rfl rfl (yv_move rfl) (qs_nil ?_)
                  by_cases hc17 : (nth l (m : Int)) = (nth l (i : Int))
                  · skip
                    refine any_takes [10, 11, 12, 13, 14, 15] (by kernel_rfl) hH16 _ _ _ (by kernel_rfl) ?_
                    refine qs_yes rfl rfl rfl (decide_eq_true hc17) rfl (yv_move rfl) ?_
                    refine qs_yes rfl rfl rfl (decide_eq_true hc17) rfl (yv_move rfl) ?_
                    refine qs_yes rfl rfl rfl (decide_eq_true hc17) rfl (yv_index T.sl22 rfl rfl (h0.now hH16 (n := 0) rfl).is (by omega)) ?_
                    refine qs_yes rfl rfl rfl (decide_eq_true hc17) rfl (yv_load T.one3 rfl (fun _ hw => Rd.at (h0.now hw (n := 0) rfl) (i := (i : Int)) (by omega) (j := 0) rfl)) ?_
                    refine qs_yes rfl rfl rfl (decide_eq_true hc17) rfl (yv_geq rfl rfl) ?_
                    refine qs_y rfl rfl (yv_pick_t rfl (decide_eq_true hc17) rfl) ?_
                    refine qs_nil ?_
                    refine any_done (by kernel_rfl) ?_
                    refine thn_n ?_
                    by_cases hc18 : 0 ≤ (nth l (i : Int))
                    · skip
                      have hbad : ¬ S.Diff l := fun h => h i (by omega) m (by omega) ⟨by omega, by omega⟩
                      refine cond_t rfl (decide_eq_true hc18) ?_
                      refine seq (region (ops_y hH16 rfl rfl (yv_assign rfl) (ops_nil (thn_n (ret (blk_r (thn_r (lp_r (blk_r ?_)))))))))
                      refine blk_r (thn_r (lp_r (blk_r (thn_r ?_))))
                      refine fin hH16 (fun w' hf => (res1 rfl (show RV _ _ _ (.tmp 4) _ from rfl))) (fun w' hf => ?_)
                      first | exact congrArg (Value.int .i64) (S.ck1 (by omega)).symm | exact congrArg (Value.int .i64) (S.ck2 (by omega) hno).symm | exact congrArg (Value.int .i64) (S.ck3 (by omega) hin hbad).symm | exact congrArg (Value.int .i64) (S.ck4 (by omega) hin (fun i hi => hall2 i (by omega))).symm
                    · skip
                      refine cond_f rfl (decide_eq_false hc18) ?_
                      refine skip (blk_n (thn_n (region (ops_y hH16 rfl rfl (yv_move rfl) ?_))))
                      refine ops_y hH16 rfl rfl (yv_add rfl rfl (by omega)) ?_
                      refine ops_y hH16 rfl rfl (yv_assign rfl) (ops_nil ?_)
                      refine lp_n (m + 1) (Sub.cons rfl (Sub.cons rfl (Sub.cons rfl (Sub.nil _)))) ?_ ?_
                      · exact ⟨hH16, by omega, S.all_snoc hall3 (by omega)⟩
                      · first | (dsimp only; omega) | (show _ < _; omega)
                  · skip
                    refine any_takes [10, 11, 12, 13, 14, 15] (by kernel_rfl) hH16 _ _ _ (by kernel_rfl) ?_
                    refine qs_no rfl rfl rfl (decide_eq_false hc17) rfl ?_
                    refine qs_no rfl rfl rfl (decide_eq_false hc17) rfl ?_
                    refine qs_no rfl rfl rfl (decide_eq_false hc17) rfl ?_
                    refine qs_no rfl rfl rfl (decide_eq_false hc17) rfl ?_
                    refine qs_no rfl rfl rfl (decide_eq_false hc17) rfl ?_
                    refine qs_y rfl rfl (yv_pick_f rfl (decide_eq_false hc17) rfl) ?_
                    refine qs_nil ?_
                    refine any_done (by kernel_rfl) ?_
                    refine thn_n ?_
                    refine cond_f rfl rfl ?_
                    refine skip (blk_n (thn_n (region (ops_y hH16 rfl rfl (yv_move rfl) ?_))))
                    refine ops_y hH16 rfl rfl (yv_add rfl rfl (by omega)) ?_
                    refine ops_y hH16 rfl rfl (yv_assign rfl) (ops_nil ?_)
                    refine lp_n (m + 1) (Sub.cons rfl (Sub.cons rfl (Sub.cons rfl (Sub.nil _)))) ?_ ?_
                    · exact ⟨hH16, by omega, S.all_snoc hall3 (by omega)⟩
                    · first | (dsimp only; omega) | (show _ < _; omega)
                · skip
                  refine cond_f rfl (decide_eq_false hc13) ?_
                  refine exit (thn_x (lp_x (blk_here (blk_n (thn_n (region (ops_y hH12 rfl rfl (yv_move rfl) ?_)))))))
                  refine ops_y hH12 rfl rfl (yv_add rfl rfl (by omega)) ?_
                  refine ops_y hH12 rfl rfl (yv_assign rfl) (ops_nil ?_)
                  refine lp_n (i + 1) (Sub.cons rfl (Sub.cons rfl (Sub.nil _))) ?_ ?_
                  · exact ⟨hH12, by omega, S.all_snoc hall2 (fun k hk => hall3 k (by omega))⟩
                  · first | (dsimp only; omega) | (show _ < _; omega)
            · skip
              refine cond_f rfl (decide_eq_false hc10) ?_
              refine exit (thn_x (lp_x (blk_here (thn_n (seq (region (ops_y hH9 rfl rfl (yv_assign rfl) (ops_nil (thn_n ?_)))))))))
              refine ret ?_
              refine fin hH9 (fun w' hf => (res1 rfl (show RV _ _ _ (.tmp 4) _ from rfl))) (fun w' hf => ?_)
              first | exact congrArg (Value.int .i64) (S.ck1 (by omega)).symm | exact congrArg (Value.int .i64) (S.ck2 (by omega) hno).symm | exact congrArg (Value.int .i64) (S.ck3 (by omega) hin hbad).symm | exact congrArg (Value.int .i64) (S.ck4 (by omega) hin (fun i hi => hall2 i (by omega))).symm

theorem c24 {v : Value} {l : List Int} {w : World} (h0 : Rd encI 1 v l w) (hn : l.length ≤ 1000000)  :
    Fn Try.prog 24 [v].toArray w (fun u _ => u = .int .i64 (S.check l 0)) := by
  refine fn_of' (args := [v]) Try.func24 rfl (ent Try.func24 (by kernel_rfl) rfl) rfl rfl (fun hH => ?_)
  refine seq (region (ops_y hH rfl rfl (yv_assign rfl) (ops_nil (thn_n (seq (region (ops_y hH rfl rfl (yv_move rfl) ?_)))))))
  refine op_fnV rfl rfl rfl hH (c78 (h0.now hH (n := 0) rfl) (by omega)) (fun w1 hH2 => ?_)
  refine ops_y hH2 rfl rfl (yv_assign rfl) (ops_nil (thn_n (ret ?_)))
  refine fin hH2 (fun w' hf => (res1 rfl (show RV _ _ _ (.tmp 2) _ from rfl))) (fun w' hf => ?_)
  rfl

theorem c55 {v : Value} {l : List Int} {w : World} (h0 : Rd encI 1 v l w) (hn : l.length ≤ 1000000)  :
    Fn Try.prog 55 [v].toArray w (fun u _ => u = .int .i64 (S.check l (-1))) := by
  refine fn_of' (args := [v]) Try.func55 rfl (ent Try.func55 (by kernel_rfl) rfl) rfl rfl (fun hH => ?_)
  refine seq (region (ops_y hH rfl rfl (yv_assign rfl) (ops_nil (thn_n (seq (region (ops_y hH rfl rfl (yv_move rfl) ?_)))))))
  refine op_fnV rfl rfl rfl hH (c78 (h0.now hH (n := 0) rfl) (by omega)) (fun w1 hH2 => ?_)
  refine ops_y hH2 rfl rfl (yv_assign rfl) (ops_nil (thn_n (ret ?_)))
  refine fin hH2 (fun w' hf => (res1 rfl (show RV _ _ _ (.tmp 2) _ from rfl))) (fun w' hf => ?_)
  rfl

theorem c60 {v : Value} {l : List Int} {w : World} (h0 : Rd encI 1 v l w) (hn : l.length ≤ 1000000)  :
    Fn Try.prog 60 [v].toArray w (fun u w => Own 3 1 encI u l w) := by
  refine fn_of' (args := [v]) Try.func60 rfl (ent Try.func60 (by kernel_rfl) rfl) rfl rfl (fun hH => ?_)
  refine seq (region (ops_y hH rfl rfl (yv_assign rfl) (ops_nil (thn_n (seq (region ?_))))))
  refine op_lit (us := []) T.el22_encI ([] : List Int) rfl (by decide) rfl (fun a ha => by simp) (fun w => by kernel_rfl) hH (fun u1 lo3 hi4 w2 hH5 => ?_)
  refine ops_y hH5 rfl rfl (yv_move rfl) ?_
  refine op_append (n := 0) T.el22_encI rfl rfl rfl hH5 rfl (h0.now hH5 (n := 1) rfl) (by first | omega | (simp only [List.length_append, List.length_cons, List.length_nil]; omega)) (fun u6 lo8 hi9 w7 hH10 => ?_)
  refine ops_y hH10 rfl rfl (yv_assign rfl) (ops_nil (thn_n (ret ?_)))
  refine fin (hH10.front (n := 1) rfl) (fun w' hf => (res1 rfl (show RV _ _ _ (.tmp 2) _ from rfl))) (fun w' hf => ?_)
  exact (by have h := Heap.own hf (n := 0) rfl; simpa using h)

theorem c58 {n : Int} {w : World} (h0 : 0 ≤ n) (h1 : n ≤ 1000)  :
    Fn Try.prog 58 [(.int .i64 n)].toArray w (fun u w => Own 3 1 encI u (S.right n.toNat) w) := by
  refine fn_of' (args := [(.int .i64 n)]) Try.func58 rfl (ent Try.func58 (by kernel_rfl) rfl) rfl rfl (fun hH => ?_)
  refine seq (region (ops_y hH rfl rfl (yv_assign rfl) (ops_nil (thn_n (seq (region (ops_y hH rfl rfl (yv_assign rfl) (ops_nil (thn_n ?_)))))))))
  refine seq (seq (region (ops_y hH rfl rfl (yv_assign rfl) (ops_nil (thn_n (block ?_))))))
  have hH1 := ow_nil (enc := encI) 3 1 hH
  refine loop (S := Nat × Value × Nat × Nat) (fun (k, v_3, lo_3, hi_3) => [(4, (.int .i64 (k : Int))), (3, v_3), (0, (.int .i64 n)), (2, (.slice none 0 0))]) (fun (k, v_3, lo_3, hi_3) w1 => Heap [ow lo_3 hi_3 3 1 encI v_3 (S.right k), base w] w1 ∧ (k : Int) ≤ n) (fun (k, v_3, lo_3, hi_3) => n.toNat - k) (0, (.slice none 0 0), w.heap.size, w.heap.size) (Sub.cons rfl (Sub.cons rfl (Sub.cons rfl (Sub.cons rfl (Sub.nil _))))) ?_ ?_
  · exact ⟨(Heap.recast (n := 0) hH1 rfl (rfl)), by omega⟩
  · rintro ⟨k, v_3, lo_3, hi_3⟩ w2 ⟨hH3, hk⟩
    show Holds _ _ _ _ _ [(4, (.int .i64 (k : Int))), (3, v_3), (0, (.int .i64 n)), (2, (.slice none 0 0))] _ _
    refine seq (seq (region (ops_y hH3 rfl rfl (yv_move rfl) (ops_y hH3 rfl rfl (yv_move rfl) ?_))))
    refine ops_y hH3 rfl rfl (yv_lss rfl rfl) ?_
    refine ops_nil (thn_n ?_)
    by_cases hc4 : (k : Int) < n
    · skip
      refine cond_t rfl (decide_eq_true hc4) ?_
      refine skip (thn_n (seq (block ?_)))
      have hrl := S.right_length k
      refine region (ops_y hH3 rfl rfl (yv_move rfl) (ops_y hH3 rfl rfl (yv_move rfl) ?_))
      refine op_lit (us := [(0, (.int .i64 (k : Int)))]) T.el22_encI [(k : Int)] rfl (by decide) rfl (fun a ha => by simp [ha.ev (show ev _ (.tmp 11) = some _ from rfl)]) (fun w => by kernel_rfl) hH3 (fun u5 lo7 hi8 w6 hH9 => ?_)
      refine op_append (n := 1) T.el22_encI rfl rfl rfl hH9 rfl (Heap.rdw T.el22_encI hH9 (n := 0) rfl) (by first | omega | (simp only [List.length_append, List.length_cons, List.length_nil]; omega)) (fun u10 lo12 hi13 w11 hH14 => ?_)
      refine ops_y hH14 rfl rfl (yv_assign rfl) (ops_nil (blk_n (thn_n (region (ops_y hH14 rfl rfl (yv_move rfl) ?_)))))
      refine ops_y hH14 rfl rfl (yv_add rfl rfl (by omega)) ?_
      refine ops_y hH14 rfl rfl (yv_assign rfl) (ops_nil ?_)
      have hH15 := (hH14.sub (List.Sublist.cons _ (List.Sublist.refl _)))
      refine lp_n (k + 1, u10, lo12, hi13) (Sub.cons rfl (Sub.cons rfl (Sub.cons rfl (Sub.cons rfl (Sub.nil _))))) ?_ ?_
      · exact ⟨(Heap.recast (n := 0) hH15 rfl (S.right_succ.symm)), by omega⟩
      · first | (dsimp only; omega) | (show _ < _; omega)
    · skip
      refine cond_f rfl (decide_eq_false hc4) ?_
      refine exit (thn_x (lp_x (blk_here (thn_n (seq (region (ops_y hH3 rfl rfl (yv_move rfl) (ops_y hH3 rfl rfl (yv_assign rfl) (ops_nil ?_)))))))))
      refine thn_n (ret ?_)
      refine fin (hH3.front (n := 1) rfl) (fun w' hf => (res1 rfl (show RV _ _ _ (.tmp 2) _ from rfl))) (fun w' hf => ?_)
      have hk2 : k = n.toNat := by omega
      subst hk2; exact Heap.own hf (n := 0) rfl

theorem c88 {v u : Value} {l m : List Int} {w : World} (h0 : Rd encI 1 v l w) (h1 : Rd encI 1 u m w) (hn : l.length ≤ 1000000) (hn2 : m.length ≤ 1000000)  :
    Fn Try.prog 88 [v, u].toArray w (fun u _ => u = .bool (decide (l = m))) := by
  refine fn_of' (args := [v, u]) Try.func88 rfl (ent Try.func88 (by kernel_rfl) rfl) rfl rfl (fun hH => ?_)
  refine seq (region (ops_y hH rfl rfl (yv_assign rfl) (ops_nil (thn_n (seq (seq (region (ops_y hH rfl rfl (yv_move rfl) ?_))))))))
  refine ops_y hH rfl rfl (yv_len T.sl22 rfl (h0.now hH (n := 0) rfl).is) ?_
  refine ops_y hH rfl rfl (yv_move rfl) ?_
  refine ops_y hH rfl rfl (yv_len T.sl22 rfl (h1.now hH (n := 0) rfl).is) ?_
  refine ops_y hH rfl rfl (yv_neq rfl rfl) ?_
  refine ops_nil (thn_n ?_)
  by_cases hc1 : (l.length : Int) = (m.length : Int)
  · skip
    refine cond_f rfl (not_decide_n hc1) ?_
    refine skip (thn_n (seq (seq (region (ops_y hH rfl rfl (yv_assign rfl) (ops_nil (thn_n (block ?_))))))))
    refine loop (S := Nat) (fun k => [(5, (.int .i64 (k : Int))), (0, v), (1, u)]) (fun k w1 => Heap [base w] w1 ∧ k ≤ l.length ∧ ∀ i, i < k → nth l (i : Int) = nth m (i : Int)) (fun k => l.length - k) (0) (Sub.cons rfl (Sub.cons rfl (Sub.cons rfl (Sub.nil _)))) ?_ ?_
    · exact ⟨hH, by omega, S.all_zero⟩
    · rintro k w2 ⟨hH3, hk, hall⟩
      show Holds _ _ _ _ _ [(5, (.int .i64 (k : Int))), (0, v), (1, u)] _ _
      refine seq (seq (region (ops_y hH3 rfl rfl (yv_move rfl) (ops_y hH3 rfl rfl (yv_move rfl) ?_))))
      refine ops_y hH3 rfl rfl (yv_len T.sl22 rfl (h0.now hH3 (n := 0) rfl).is) ?_
      refine ops_y hH3 rfl rfl (yv_lss rfl rfl) ?_
      refine ops_nil (thn_n ?_)
      by_cases hc4 : (k : Int) < (l.length : Int)
      · skip
        refine cond_t rfl (decide_eq_true hc4) ?_
        refine skip (thn_n (seq (block (seq ?_))))
        refine region_draw (fun w' => Heap [base w] w') T.mixed (fun w5 hr6 => ?_)
        have hH7 := hH3.redrawn hr6
        refine any_takes [0, 1, 2, 3, 4, 5, 6, 7, 8] (by kernel_rfl) hH7 _ _ _ (by kernel_rfl) ?_
        refine qs_y rfl rfl (yv_move rfl) (qs_y rfl rfl (yv_move rfl) ?_)
        refine qs_y rfl rfl (yv_index T.sl22 rfl rfl (h0.now hH7 (n := 0) rfl).is (by omega)) ?_
        refine qs_y rfl rfl (yv_load T.one3 rfl (fun _ hw => Rd.at (h0.now hw (n := 0) rfl) (i := (k : Int)) (by omega) (j := 0) rfl)) ?_
        refine qs_y rfl rfl (yv_move rfl) (qs_y rfl rfl (yv_move rfl) ?_)
        refine qs_y rfl rfl (yv_index T.sl22 rfl rfl (h1.now hH7 (n := 0) rfl).is (by omega)) ?_
        refine qs_y rfl rfl (yv_load T.one3 rfl (fun _ hw => Rd.at (h1.now hw (n := 0) rfl) (i := (k : Int)) (by omega) (j := 0) rfl)) ?_
        refine qs_y rfl rfl (yv_neq rfl rfl) ?_
        refine qs_nil ?_
        refine any_done (by kernel_rfl) ?_
        refine thn_n ?_
        by_cases hc8 : (nth l (k : Int)) = (nth m (k : Int))
        · skip
          refine cond_f rfl (not_decide_n hc8) ?_
          refine skip (blk_n (thn_n (region (ops_y hH7 rfl rfl (yv_move rfl) ?_))))
          refine ops_y hH7 rfl rfl (yv_add rfl rfl (by omega)) ?_
          refine ops_y hH7 rfl rfl (yv_assign rfl) (ops_nil ?_)
          refine lp_n (k + 1) (Sub.cons rfl (Sub.cons rfl (Sub.cons rfl (Sub.nil _)))) ?_ ?_
          · exact ⟨hH7, by omega, S.all_snoc hall (by omega)⟩
          · first | (dsimp only; omega) | (show _ < _; omega)
        · skip
          refine cond_t rfl (not_decide_t hc8) ?_
          refine seq (region (ops_y hH7 rfl rfl (yv_assign rfl) (ops_nil (thn_n (ret (blk_r (thn_r (lp_r (blk_r ?_)))))))))
          refine thn_r ?_
          refine fin hH7 (fun w' hf => (res1 rfl (show RV _ _ _ (.tmp 4) _ from rfl))) (fun w' hf => ?_)
          first | exact congrArg Value.bool (decide_eq_false (fun e => by subst e; omega)).symm | exact congrArg Value.bool (decide_eq_true (S.ext_nth (by omega) (fun i hi => hall i (by omega)))).symm
      · skip
        refine cond_f rfl (decide_eq_false hc4) ?_
        refine exit (thn_x (lp_x (blk_here (thn_n (seq (region (ops_y hH3 rfl rfl (yv_assign rfl) (ops_nil (thn_n ?_)))))))))
        refine ret ?_
        refine fin hH3 (fun w' hf => (res1 rfl (show RV _ _ _ (.tmp 4) _ from rfl))) (fun w' hf => ?_)
        first | exact congrArg Value.bool (decide_eq_false (fun e => by subst e; omega)).symm | exact congrArg Value.bool (decide_eq_true (S.ext_nth (by omega) (fun i hi => hall i (by omega)))).symm
  · skip
    refine cond_t rfl (not_decide_t hc1) ?_
    refine seq (region (ops_y hH rfl rfl (yv_assign rfl) (ops_nil (thn_n (ret (thn_r ?_))))))
    refine fin hH (fun w' hf => (res1 rfl (show RV _ _ _ (.tmp 4) _ from rfl))) (fun w' hf => ?_)
    first | exact congrArg Value.bool (decide_eq_false (fun e => by subst e; omega)).symm | exact congrArg Value.bool (decide_eq_true (S.ext_nth (by omega) (fun i hi => hall i (by omega)))).symm

theorem c33 {v u : Value} {l m : List Int} {w : World} (h0 : Rd encI 1 v l w) (h1 : Rd encI 1 u m w) (hn : l.length ≤ 1000000) (hn2 : m.length ≤ 1000000)  :
    Fn Try.prog 33 [v, u].toArray w (fun u _ => u = .bool (decide (l = m))) := by
  refine fn_of' (args := [v, u]) Try.func33 rfl (ent Try.func33 (by kernel_rfl) rfl) rfl rfl (fun hH => ?_)
  refine seq (region (ops_y hH rfl rfl (yv_assign rfl) (ops_nil (thn_n (seq (region (ops_y hH rfl rfl (yv_move rfl) (ops_y hH rfl rfl (yv_move rfl) ?_))))))))
  refine op_fnV rfl rfl rfl hH (c88 (h0.now hH (n := 0) rfl) (h1.now hH (n := 0) rfl) (by omega) (by omega)) (fun w1 hH2 => ?_)
  refine ops_y hH2 rfl rfl (yv_assign rfl) (ops_nil (thn_n (ret ?_)))
  refine fin hH2 (fun w' hf => (res1 rfl (show RV _ _ _ (.tmp 4) _ from rfl))) (fun w' hf => ?_)
  rfl

theorem c95 {v : Value} {l : List Int} {a : Int} {w : World} (h0 : Rd encI 1 v l w) (hj : S.J l) (ha : 0 ≤ a) (ha2 : a < (l.length : Int))  :
    Fn Try.prog 95 [v, (.int .i64 a)].toArray w (fun u w => Own 3 1 encI u (S.circ l a) w) := by
  refine fn_of' (args := [v, (.int .i64 a)]) Try.func95 rfl (ent Try.func95 (by kernel_rfl) rfl) rfl rfl (fun hH => ?_)
  have hl10 := hj.2.1
  refine seq (region (ops_y hH rfl rfl (yv_assign rfl) (ops_nil (thn_n (seq (region (ops_y hH rfl rfl (yv_move rfl) ?_)))))))
  refine op_lit (us := [(0, (.int .i64 a))]) T.el22_encI [a] rfl (by decide) rfl (fun a ha => by simp [ha.ev (show ev _ (.tmp 7) = some _ from rfl)]) (fun w => by kernel_rfl) hH (fun u1 lo3 hi4 w2 hH5 => ?_)
  refine ops_y hH5 rfl rfl (yv_assign rfl) (ops_nil (thn_n (seq (seq (region (ops_y hH5 rfl rfl (yv_move rfl) (ops_y hH5 rfl rfl (yv_move rfl) ?_)))))))
  refine ops_y hH5 rfl rfl (yv_index T.sl22 rfl rfl (h0.now hH5 (n := 1) rfl).is (by omega)) ?_
  refine ops_y hH5 rfl rfl (yv_load T.one3 rfl (fun _ hw => Rd.at (h0.now hw (n := 1) rfl) (i := a) (by omega) (j := 0) rfl)) ?_
  refine ops_y hH5 rfl rfl (yv_assign rfl) (ops_nil (thn_n (block ?_)))
  refine loop (S := Nat × Value × Nat × Nat) (fun (k, v_5, lo_5, hi_5) => [(6, (.int .i64 (S.it l (k + 1) a))), (5, v_5), (0, v), (1, (.int .i64 a)), (4, (.slice none 0 0))]) (fun (k, v_5, lo_5, hi_5) w1 => Heap [ow lo_5 hi_5 3 1 encI v_5 (S.circTo l a (k + 1)), base w] w1 ∧ k < S.per l a) (fun (k, v_5, lo_5, hi_5) => S.per l a - k) (0, u1, lo3, hi4) (Sub.cons rfl (Sub.cons rfl (Sub.cons rfl (Sub.cons rfl (Sub.cons rfl (Sub.nil _)))))) ?_ ?_
  · exact ⟨(Heap.recast (n := 0) hH5 rfl (rfl)), S.per_pos⟩
  · rintro ⟨k, v_5, lo_5, hi_5⟩ w6 ⟨hH7, hk⟩
    show Holds _ _ _ _ _ [(6, (.int .i64 (S.it l (k + 1) a))), (5, v_5), (0, v), (1, (.int .i64 a)), (4, (.slice none 0 0))] _ _
    have hit := hj.it ha ha2 (k + 1)
    have hpl := (hj.per_at ha ha2).2
    have hcl := S.circTo_length (l := l) (a := a) (k := k + 1)
    refine seq (seq (region (ops_y hH7 rfl rfl (yv_move rfl) (ops_y hH7 rfl rfl (yv_move rfl) ?_))))
    refine ops_y hH7 rfl rfl (yv_neq rfl rfl) ?_
    refine ops_nil (thn_n ?_)
    by_cases hc8 : (S.it l (k + 1) a) = a
    · skip
      have heq : S.it l (k + 1) a = a := by omega
      refine cond_f rfl (not_decide_n hc8) ?_
      refine exit (thn_x (lp_x (blk_here (thn_n (seq (region (ops_y hH7 rfl rfl (yv_move rfl) (ops_y hH7 rfl rfl (yv_assign rfl) (ops_nil ?_)))))))))
      refine thn_n (ret ?_)
      refine fin (hH7.front (n := 1) rfl) (fun w' hf => (res1 rfl (show RV _ _ _ (.tmp 4) _ from rfl))) (fun w' hf => ?_)
      have hk2 := S.per_done heq hk; rw [S.circ, hk2]; exact Heap.own hf (n := 0) rfl
    · skip
      have hne : ¬ S.it l (k + 1) a = a := ‹_›
      refine cond_t rfl (not_decide_t hc8) ?_
      refine skip (thn_n (seq (block (region (ops_y hH7 rfl rfl (yv_move rfl) (ops_y hH7 rfl rfl (yv_move rfl) ?_))))))
      refine op_lit (us := [(0, (.int .i64 (S.it l (k + 1) a)))]) T.el22_encI [(S.it l (k + 1) a)] rfl (by decide) rfl (fun a ha => by simp [ha.ev (show ev _ (.tmp 21) = some _ from rfl)]) (fun w => by kernel_rfl) hH7 (fun u9 lo11 hi12 w10 hH13 => ?_)
      refine op_append (n := 1) T.el22_encI rfl rfl rfl hH13 rfl (Heap.rdw T.el22_encI hH13 (n := 0) rfl) (by first | omega | (simp only [List.length_append, List.length_cons, List.length_nil]; omega)) (fun u14 lo16 hi17 w15 hH18 => ?_)
      refine ops_y hH18 rfl rfl (yv_assign rfl) (ops_nil (blk_n (thn_n (region (ops_y hH18 rfl rfl (yv_move rfl) (ops_y hH18 rfl rfl (yv_move rfl) ?_))))))
      refine ops_y hH18 rfl rfl (yv_index T.sl22 rfl rfl (h0.now hH18 (n := 2) rfl).is (by omega)) ?_
      refine ops_y hH18 rfl rfl (yv_load T.one3 rfl (fun _ hw => Rd.at (h0.now hw (n := 2) rfl) (i := (S.it l (k + 1) a)) (by omega) (j := 0) rfl)) ?_
      refine ops_y hH18 rfl rfl (yv_assign rfl) (ops_nil ?_)
      have hH19 := (hH18.sub (List.Sublist.cons _ (List.Sublist.refl _)))
      refine lp_n (k + 1, u14, lo16, hi17) (Sub.cons rfl (Sub.cons rfl (Sub.cons rfl (Sub.cons rfl (Sub.cons rfl (Sub.nil _)))))) ?_ ?_
      · exact ⟨(Heap.recast (n := 0) hH19 rfl (S.circTo_succ.symm)), S.per_more hne hj ha ha2 hk⟩
      · first | (dsimp only; omega) | (show _ < _; omega)

theorem c107 {v : Value} {l : List Int} {w : World} (h0 : Rd encI 1 v l w) (hn : l.length ≤ 1000000) (h1 : 1 ≤ l.length)  :
    Fn Try.prog 107 [v].toArray w (fun u _ => u = .int .i64 (S.leastTo l l.length)) := by
  refine fn_of' (args := [v]) Try.func107 rfl (ent Try.func107 (by kernel_rfl) rfl) rfl rfl (fun hH => ?_)
  refine seq (region (ops_y hH rfl rfl (yv_assign rfl) (ops_nil (thn_n (seq (region (ops_y hH rfl rfl (yv_move rfl) ?_)))))))
  refine ops_y hH rfl rfl (yv_index T.sl22 rfl rfl (h0.now hH (n := 0) rfl).is (by omega)) ?_
  refine ops_y hH rfl rfl (yv_load T.one3 rfl (fun _ hw => Rd.at (h0.now hw (n := 0) rfl) (i := 0) (by omega) (j := 0) rfl)) ?_
  refine ops_y hH rfl rfl (yv_assign rfl) (ops_nil (thn_n (seq (seq (region (ops_y hH rfl rfl (yv_assign rfl) (ops_nil (thn_n (block ?_)))))))))
  refine loop (S := Nat) (fun k => [(3, (.int .i64 (S.leastTo l k))), (4, (.int .i64 (k : Int))), (0, v), (2, (.int .i64 0))]) (fun k w1 => Heap [base w] w1 ∧ k ≤ l.length) (fun k => l.length - k) (0) (Sub.cons rfl (Sub.cons rfl (Sub.cons rfl (Sub.cons rfl (Sub.nil _))))) ?_ ?_
  · exact ⟨hH, by omega⟩
  · rintro k w1 ⟨hH2, hk⟩
    show Holds _ _ _ _ _ [(3, (.int .i64 (S.leastTo l k))), (4, (.int .i64 (k : Int))), (0, v), (2, (.int .i64 0))] _ _
    refine seq (seq (region (ops_y hH2 rfl rfl (yv_move rfl) (ops_y hH2 rfl rfl (yv_move rfl) ?_))))
    refine ops_y hH2 rfl rfl (yv_len T.sl22 rfl (h0.now hH2 (n := 0) rfl).is) ?_
    refine ops_y hH2 rfl rfl (yv_lss rfl rfl) ?_
    refine ops_nil (thn_n ?_)
    by_cases hc3 : (k : Int) < (l.length : Int)
    · skip
      refine cond_t rfl (decide_eq_true hc3) ?_
      refine skip (thn_n (seq (block (region (ops_y hH2 rfl rfl (yv_move rfl) (ops_y hH2 rfl rfl (yv_move rfl) (ops_y hH2 rfl rfl (yv_move rfl) ?_)))))))
      refine ops_y hH2 rfl rfl (yv_index T.sl22 rfl rfl (h0.now hH2 (n := 0) rfl).is (by omega)) ?_
      refine ops_y hH2 rfl rfl (yv_load T.one3 rfl (fun _ hw => Rd.at (h0.now hw (n := 0) rfl) (i := (k : Int)) (by omega) (j := 0) rfl)) ?_
      refine ops_y hH2 rfl rfl (yv_min rfl rfl) ?_
      refine ops_y hH2 rfl rfl (yv_assign rfl) (ops_nil (blk_n (thn_n (region (ops_y hH2 rfl rfl (yv_move rfl) ?_)))))
      refine ops_y hH2 rfl rfl (yv_add rfl rfl (by omega)) ?_
      refine ops_y hH2 rfl rfl (yv_assign rfl) (ops_nil ?_)
      refine lp_n (k + 1) (Sub.cons rfl (Sub.cons rfl (Sub.cons rfl (Sub.cons rfl (Sub.nil _))))) ?_ ?_
      · exact ⟨hH2, by omega⟩
      · first | (dsimp only; omega) | (show _ < _; omega)
    · skip
      refine cond_f rfl (decide_eq_false hc3) ?_
      refine exit (thn_x (lp_x (blk_here (thn_n (seq (region (ops_y hH2 rfl rfl (yv_move rfl) (ops_y hH2 rfl rfl (yv_assign rfl) (ops_nil ?_)))))))))
      refine thn_n (ret ?_)
      refine fin hH2 (fun w' hf => (res1 rfl (show RV _ _ _ (.tmp 2) _ from rfl))) (fun w' hf => ?_)
      have hk2 : k = l.length := by omega
      subst hk2; rfl

theorem c63 {v u : Value} {l m : List Int} {w : World} (h0 : Rd encI 1 v l w) (h1 : Rd encI 1 u m w) (hn : l.length ≤ 1000) (hin : ∀ i, i < l.length → 0 ≤ nth l (i : Int) ∧ nth l (i : Int) < (m.length : Int))  :
    Fn Try.prog 63 [v, u].toArray w (fun u w => Own 3 1 encI u (S.behind l m) w) := by
  refine fn_of' (args := [v, u]) Try.func63 rfl (ent Try.func63 (by kernel_rfl) rfl) rfl rfl (fun hH => ?_)
  refine seq (region (ops_y hH rfl rfl (yv_assign rfl) (ops_nil (thn_n (seq (region (ops_y hH rfl rfl (yv_assign rfl) (ops_nil (thn_n ?_)))))))))
  refine seq (seq (region (ops_y hH rfl rfl (yv_assign rfl) (ops_nil (thn_n (block ?_))))))
  have hH1 := ow_nil (enc := encI) 3 1 hH
  refine loop (S := Nat × Value × Nat × Nat) (fun (k, v_5, lo_5, hi_5) => [(6, (.int .i64 (k : Int))), (5, v_5), (0, v), (1, u), (4, (.slice none 0 0))]) (fun (k, v_5, lo_5, hi_5) w1 => Heap [ow lo_5 hi_5 3 1 encI v_5 (S.behindTo l m k), base w] w1 ∧ k ≤ l.length) (fun (k, v_5, lo_5, hi_5) => l.length - k) (0, (.slice none 0 0), w.heap.size, w.heap.size) (Sub.cons rfl (Sub.cons rfl (Sub.cons rfl (Sub.cons rfl (Sub.cons rfl (Sub.nil _)))))) ?_ ?_
  · exact ⟨(Heap.recast (n := 0) hH1 rfl (rfl)), by omega⟩
  · rintro ⟨k, v_5, lo_5, hi_5⟩ w2 ⟨hH3, hk⟩
    show Holds _ _ _ _ _ [(6, (.int .i64 (k : Int))), (5, v_5), (0, v), (1, u), (4, (.slice none 0 0))] _ _
    refine seq (seq (region (ops_y hH3 rfl rfl (yv_move rfl) (ops_y hH3 rfl rfl (yv_move rfl) ?_))))
    refine ops_y hH3 rfl rfl (yv_len T.sl22 rfl (h0.now hH3 (n := 1) rfl).is) ?_
    refine ops_y hH3 rfl rfl (yv_lss rfl rfl) ?_
    refine ops_nil (thn_n ?_)
    by_cases hc4 : (k : Int) < (l.length : Int)
    · skip
      refine cond_t rfl (decide_eq_true hc4) ?_
      refine skip (thn_n (seq (block ?_)))
      have hbl := S.behindTo_length (l := l) (m := m) (k := k)
      have hik := hin k (by omega)
      refine region (ops_y hH3 rfl rfl (yv_move rfl) (ops_y hH3 rfl rfl (yv_move rfl) (ops_y hH3 rfl rfl (yv_move rfl) (ops_y hH3 rfl rfl (yv_move rfl) ?_))))
      refine ops_y hH3 rfl rfl (yv_index T.sl22 rfl rfl (h0.now hH3 (n := 1) rfl).is (by omega)) ?_
      refine ops_y hH3 rfl rfl (yv_load T.one3 rfl (fun _ hw => Rd.at (h0.now hw (n := 1) rfl) (i := (k : Int)) (by omega) (j := 0) rfl)) ?_
      refine ops_y hH3 rfl rfl (yv_index T.sl22 rfl rfl (h1.now hH3 (n := 1) rfl).is (by omega)) ?_
      refine ops_y hH3 rfl rfl (yv_load T.one3 rfl (fun _ hw => Rd.at (h1.now hw (n := 1) rfl) (i := nth l (k : Int)) (by omega) (j := 0) rfl)) ?_
      refine op_lit (us := [(0, (.int .i64 (nth m (nth l (k : Int)))))]) T.el22_encI [nth m (nth l (k : Int))] rfl (by decide) rfl (fun a ha => by simp [ha.ev (show ev _ (.tmp 20) = some _ from rfl)]) (fun w => by kernel_rfl) hH3 (fun u5 lo7 hi8 w6 hH9 => ?_)
      refine op_append (n := 1) T.el22_encI rfl rfl rfl hH9 rfl (Heap.rdw T.el22_encI hH9 (n := 0) rfl) (by first | omega | (simp only [List.length_append, List.length_cons, List.length_nil]; omega)) (fun u10 lo12 hi13 w11 hH14 => ?_)
      refine ops_y hH14 rfl rfl (yv_assign rfl) (ops_nil (blk_n (thn_n (region (ops_y hH14 rfl rfl (yv_move rfl) ?_)))))
      refine ops_y hH14 rfl rfl (yv_add rfl rfl (by omega)) ?_
      refine ops_y hH14 rfl rfl (yv_assign rfl) (ops_nil ?_)
      have hH15 := (hH14.sub (List.Sublist.cons _ (List.Sublist.refl _)))
      refine lp_n (k + 1, u10, lo12, hi13) (Sub.cons rfl (Sub.cons rfl (Sub.cons rfl (Sub.cons rfl (Sub.cons rfl (Sub.nil _)))))) ?_ ?_
      · exact ⟨(Heap.recast (n := 0) hH15 rfl (S.behindTo_succ.symm)), by omega⟩
      · first | (dsimp only; omega) | (show _ < _; omega)
    · skip
      refine cond_f rfl (decide_eq_false hc4) ?_
      refine exit (thn_x (lp_x (blk_here (thn_n (seq (region (ops_y hH3 rfl rfl (yv_move rfl) (ops_y hH3 rfl rfl (yv_assign rfl) (ops_nil ?_)))))))))
      refine thn_n (ret ?_)
      refine fin (hH3.front (n := 1) rfl) (fun w' hf => (res1 rfl (show RV _ _ _ (.tmp 4) _ from rfl))) (fun w' hf => ?_)
      have hk2 : k = l.length := by omega
      subst hk2; exact Heap.own hf (n := 0) rfl

end Go.Fip

set_option linter.unusedVariables false
set_option linter.unusedSimpArgs false
set_option linter.unusedSectionVars false
set_option linter.unnecessarySimpa false
namespace Go.Fip
open Go.Proofs Go.RowKit

theorem inside_iff {l : List Int} {lo hi : Int} : (∀ i, i < l.length → (fun x : Int => decide (x < lo ∨ hi < x)) (nth l (i : Int)) = false) ↔ ∀ x ∈ l, lo ≤ x ∧ x ≤ hi := by
  constructor
  · intro h x hx
    obtain ⟨i, hi', rfl⟩ := List.getElem_of_mem hx
    have := h i hi'
    rw [nth_nat hi'] at this
    simp at this
    omega
  · intro h i hi'
    have := h (nth l (i : Int)) (by rw [nth_nat hi']; exact List.getElem_mem hi')
    simp
    omega

theorem c110 {n : Int} {lo hi : Int} {b1 b2 : Nat} {w : World} (k1 : Bx b1 3 [.int .i64 lo] w) (k2 : Bx b2 3 [.int .i64 hi] w)  :
    Fn Try.prog 110 [(.int .i64 n), (.pointer (some ⟨b1, 0, none⟩)), (.pointer (some ⟨b2, 0, none⟩))].toArray w (fun u _ => u = .bool (decide (n < lo ∨ hi < n))) := by
  refine fn_of' (args := [(.int .i64 n), (.pointer (some ⟨b1, 0, none⟩)), (.pointer (some ⟨b2, 0, none⟩))]) Try.func110 rfl (ent Try.func110 (by kernel_rfl) rfl) rfl rfl (fun hH => ?_)
  refine seq (region (ops_y hH rfl rfl (yv_assign rfl) (ops_nil (thn_n (seq (region (ops_y hH rfl rfl (yv_move rfl) ?_)))))))
  refine ops_y hH rfl rfl (yv_load T.one3 rfl (fun _ hw => bx_cell (k1.now hw (n := 0) rfl) rfl)) ?_
  refine ops_y hH rfl rfl (yv_lss rfl rfl) ?_
  refine ops_y hH rfl rfl (yv_move rfl) ?_
  by_cases hc1 : n < lo
  · skip
    refine guard_no rfl rfl (decide_eq_true hc1) rfl ?_
    refine guard_no rfl rfl (decide_eq_true hc1) rfl ?_
    refine guard_no rfl rfl (decide_eq_true hc1) rfl ?_
    refine ops_y hH rfl rfl (yv_pick_t rfl (decide_eq_true hc1) rfl) ?_
    refine ops_y hH rfl rfl (yv_assign rfl) (ops_nil (thn_n (ret ?_)))
    refine fin hH (fun w' hf => (res1 rfl (show RV _ _ _ (.tmp 4) _ from rfl))) (fun w' hf => ?_)
    first | (show Value.bool _ = Value.bool _; congr 1; rw [Bool.eq_iff_iff]; simp; done) | (show Value.bool _ = Value.bool _; congr 1; rw [Bool.eq_iff_iff]; simp; omega)
  · skip
    refine guard_yes rfl rfl (decide_eq_false hc1) ?_
    refine ops_y hH rfl rfl (yv_move rfl) ?_
    refine guard_yes rfl rfl (decide_eq_false hc1) ?_
    refine ops_y hH rfl rfl (yv_load T.one3 rfl (fun _ hw => bx_cell (k2.now hw (n := 0) rfl) rfl)) ?_
    refine guard_yes rfl rfl (decide_eq_false hc1) ?_
    refine ops_y hH rfl rfl (yv_gtr rfl rfl) ?_
    refine ops_y hH rfl rfl (yv_pick_f rfl (decide_eq_false hc1) rfl) ?_
    refine ops_y hH rfl rfl (yv_assign rfl) (ops_nil (thn_n (ret ?_)))
    refine fin hH (fun w' hf => (res1 rfl (show RV _ _ _ (.tmp 4) _ from rfl))) (fun w' hf => ?_)
    first | (show Value.bool _ = Value.bool _; congr 1; rw [Bool.eq_iff_iff]; simp; done) | (show Value.bool _ = Value.bool _; congr 1; rw [Bool.eq_iff_iff]; simp; omega)

theorem c118 {v : Value} {l : List Int} {lo hi : Int} {b1 b2 : Nat} {w : World} (h0 : Rd encI 1 v l w) (k1 : Bx b1 3 [.int .i64 lo] w) (k2 : Bx b2 3 [.int .i64 hi] w) (hn : l.length ≤ 1000000)  :
    Fn Try.prog 118 [v, (.func (.func 110) #[] #[(.pointer (some ⟨b1, 0, none⟩)), (.pointer (some ⟨b2, 0, none⟩))])].toArray w (fun u _ => u = .int .i64 (idx (fun x : Int => decide (x < lo ∨ hi < x)) l)) := by
  refine fn_of' (args := [v, (.func (.func 110) #[] #[(.pointer (some ⟨b1, 0, none⟩)), (.pointer (some ⟨b2, 0, none⟩))])]) Try.func118 rfl (ent Try.func118 (by kernel_rfl) rfl) rfl rfl (fun hH => ?_)
  refine seq (region (ops_y hH rfl rfl (yv_assign rfl) (ops_nil (thn_n (seq (seq (region (ops_y hH rfl rfl (yv_move rfl) ?_))))))))
  refine ops_y hH rfl rfl (yv_len T.sl22 rfl (h0.now hH (n := 0) rfl).is) ?_
  refine ops_y hH rfl rfl (yv_move rfl) (ops_nil (thn_n (block ?_)))
  refine loop (S := Nat) (fun k => [(8, (.int .i64 (k : Int))), (0, v), (1, (.func (.func 110) #[] #[(.pointer (some ⟨b1, 0, none⟩)), (.pointer (some ⟨b2, 0, none⟩))])), (7, (.int .i64 (l.length : Int)))]) (fun k w1 => Heap [base w] w1 ∧ k ≤ l.length ∧ ∀ i, i < k → (fun x : Int => decide (x < lo ∨ hi < x)) (nth l (i : Int)) = false) (fun k => l.length - k) (0) (Sub.cons rfl (Sub.cons rfl (Sub.cons rfl (Sub.cons rfl (Sub.nil _))))) ?_ ?_
  · exact ⟨hH, by omega, S.all_zero⟩
  · rintro k w1 ⟨hH2, hk, hall⟩
    show Holds _ _ _ _ _ [(8, (.int .i64 (k : Int))), (0, v), (1, (.func (.func 110) #[] #[(.pointer (some ⟨b1, 0, none⟩)), (.pointer (some ⟨b2, 0, none⟩))])), (7, (.int .i64 (l.length : Int)))] _ _
    refine seq (region ?_)
    refine ops_y hH2 rfl rfl (yv_lss rfl rfl) ?_
    refine ops_nil (thn_n (seq ?_))
    by_cases hc3 : (k : Int) < (l.length : Int)
    · skip
      refine cond_t rfl (decide_eq_true hc3) ?_
      refine skip (thn_n (seq (block (seq (region (ops_y hH2 rfl rfl (yv_move rfl) (ops_y hH2 rfl rfl (yv_assign rfl) (ops_nil (thn_n ?_)))))))))
      refine seq (region (ops_y hH2 rfl rfl (yv_move rfl) (ops_y hH2 rfl rfl (yv_move rfl) (ops_y hH2 rfl rfl (yv_move rfl) ?_))))
      refine ops_y hH2 rfl rfl (yv_index T.sl22 rfl rfl (h0.now hH2 (n := 0) rfl).is (by omega)) ?_
      refine ops_y hH2 rfl rfl (yv_load T.one3 rfl (fun _ hw => Rd.at (h0.now hw (n := 0) rfl) (i := (k : Int)) (by omega) (j := 0) rfl)) ?_
      refine op_fnV rfl rfl rfl hH2 (c110 (k1.now hH2 (n := 0) rfl) (k2.now hH2 (n := 0) rfl)) (fun w4 hH5 => ?_)
      refine ops_nil (thn_n ?_)
      by_cases hc6 : nth l (k : Int) < lo ∨ hi < nth l (k : Int)
      · skip
        have hp : (fun x : Int => decide (x < lo ∨ hi < x)) (nth l (k : Int)) = true := (decide_eq_true hc6)
        refine cond_t rfl (decide_eq_true hc6) ?_
        refine seq (region (ops_y hH5 rfl rfl (yv_move rfl) (ops_y hH5 rfl rfl (yv_assign rfl) (ops_nil (thn_n (ret (blk_r (thn_r (lp_r ?_)))))))))
        refine blk_r (thn_r ?_)
        refine fin hH5 (fun w' hf => (res1 rfl (show RV _ _ _ (.tmp 4) _ from rfl))) (fun w' hf => ?_)
        first | exact congrArg (Value.int .i64) (idx_hit (k := k) (by omega) hall hp).symm | exact congrArg (Value.int .i64) (idx_miss (fun i hi => hall i (by omega))).symm
      · skip
        have hp : (fun x : Int => decide (x < lo ∨ hi < x)) (nth l (k : Int)) = false := (decide_eq_false hc6)
        refine cond_f rfl (decide_eq_false hc6) ?_
        refine skip (blk_n (thn_n (region ?_)))
        refine ops_y hH5 rfl rfl (yv_add rfl rfl (by omega)) ?_
        refine ops_y hH5 rfl rfl (yv_move rfl) (ops_nil ?_)
        refine lp_n (k + 1) (Sub.cons rfl (Sub.cons rfl (Sub.cons rfl (Sub.cons rfl (Sub.nil _))))) ?_ ?_
        · exact ⟨hH5, by omega, S.all_snoc hall hp⟩
        · first | (dsimp only; omega) | (show _ < _; omega)
    · skip
      refine cond_f rfl (decide_eq_false hc3) ?_
      refine exit (thn_x (lp_x (blk_here (thn_n (seq (region (ops_y hH2 rfl rfl (yv_assign rfl) (ops_nil (thn_n ?_)))))))))
      refine ret ?_
      refine fin hH2 (fun w' hf => (res1 rfl (show RV _ _ _ (.tmp 4) _ from rfl))) (fun w' hf => ?_)
      first | exact congrArg (Value.int .i64) (idx_hit (k := k) (by omega) hall hp).symm | exact congrArg (Value.int .i64) (idx_miss (fun i hi => hall i (by omega))).symm

theorem c109 {v : Value} {l : List Int} {lo hi : Int} {b1 b2 : Nat} {w : World} (h0 : Rd encI 1 v l w) (k1 : Bx b1 3 [.int .i64 lo] w) (k2 : Bx b2 3 [.int .i64 hi] w) (hn : l.length ≤ 1000000)  :
    Fn Try.prog 109 [v, (.func (.func 110) #[] #[(.pointer (some ⟨b1, 0, none⟩)), (.pointer (some ⟨b2, 0, none⟩))])].toArray w (fun u _ => u = .bool (has (fun x : Int => decide (x < lo ∨ hi < x)) l)) := by
  refine fn_of' (args := [v, (.func (.func 110) #[] #[(.pointer (some ⟨b1, 0, none⟩)), (.pointer (some ⟨b2, 0, none⟩))])]) Try.func109 rfl (ent Try.func109 (by kernel_rfl) rfl) rfl rfl (fun hH => ?_)
  refine seq (region (ops_y hH rfl rfl (yv_assign rfl) (ops_nil (thn_n (seq (region (ops_y hH rfl rfl (yv_move rfl) (ops_y hH rfl rfl (yv_move rfl) ?_))))))))
  refine op_fnV rfl rfl rfl hH (c118 (h0.now hH (n := 0) rfl) (k1.now hH (n := 0) rfl) (k2.now hH (n := 0) rfl) (by omega)) (fun w1 hH2 => ?_)
  refine ops_y hH2 rfl rfl (yv_geq rfl rfl) ?_
  refine ops_y hH2 rfl rfl (yv_assign rfl) (ops_nil (thn_n (ret ?_)))
  refine fin hH2 (fun w' hf => (res1 rfl (show RV _ _ _ (.tmp 4) _ from rfl))) (fun w' hf => ?_)
  rfl

theorem c80 {v : Value} {l : List Int} {lo hi : Int} {w : World} (h0 : Rd encI 1 v l w) (hn : l.length ≤ 1000000)  :
    Fn Try.prog 80 [(.int .i64 lo), (.int .i64 hi), v].toArray w (fun u _ => u = .bool (decide (∀ x ∈ l, lo ≤ x ∧ x ≤ hi))) := by
  refine fn_of' (args := [(.int .i64 lo), (.int .i64 hi), v]) Try.func80 rfl (ent Try.func80 (by kernel_rfl) rfl) rfl rfl (fun hH => ?_)
  refine seq (region ?_)
  refine op_box (us := [(.int .i64 lo)]) rfl rfl rfl hH (fun b1 w2 hH3 => ?_)
  refine op_box (us := [(.int .i64 hi)]) rfl rfl rfl hH3 (fun b4 w5 hH6 => ?_)
  refine ops_y hH6 rfl rfl (yv_assign rfl) (ops_nil (thn_n (seq (region (ops_y hH6 rfl rfl (yv_move rfl) ?_)))))
  refine ops_y hH6 rfl rfl (yv_func rfl rfl) ?_
  refine op_fnV rfl rfl rfl hH6 (c109 (h0.now hH6 (n := 2) rfl) (Heap.bxw hH6 (n := 1) rfl) (Heap.bxw hH6 (n := 0) rfl) hn) (fun w7 hH8 => ?_)
  refine ops_y hH8 rfl rfl (yv_not rfl) ?_
  refine ops_y hH8 rfl rfl (yv_assign rfl) (ops_nil (thn_n (ret ?_)))
  have hH9 := (hH8.sub (List.Sublist.cons _ (List.Sublist.cons _ (List.Sublist.refl _))))
  refine fin hH9 (fun w' hf => (res1 rfl (show RV _ _ _ (.tmp 6) _ from rfl))) (fun w' hf => ?_)
  refine congrArg Value.bool ?_; rw [Bool.eq_iff_iff, Bool.not_eq_true', has_not, decide_eq_true_eq]; exact inside_iff

theorem c80_1 {v : Value} {a lo hi : Int} {w : World} (h0 : Rd encI 1 v [a] w) : Fn Try.prog 80 [.int .i64 lo, .int .i64 hi, v].toArray w (fun u _ => u = .bool (decide (lo ≤ a ∧ a ≤ hi))) := by
  have h := c80 (lo := lo) (hi := hi) h0 (by simp)
  rwa [show decide (∀ x ∈ [a], lo ≤ x ∧ x ≤ hi) = decide (lo ≤ a ∧ a ≤ hi) from decide_eq_decide.2 (by simp)] at h
theorem in_iff {l : List Int} {a : Int} : (∀ x ∈ l, a ≤ x ∧ x ≤ (l.length : Int) - 1) ↔ S.In a l := by
  constructor
  · intro h i hi
    have := h (nth l (i : Int)) (by rw [nth_nat hi]; exact List.getElem_mem hi)
    omega
  · intro h x hx
    obtain ⟨i, hi, rfl⟩ := List.getElem_of_mem hx
    have := h i hi
    rw [nth_nat hi] at this
    omega
theorem c80_in {v : Value} {l : List Int} {a : Int} {w : World} (h0 : Rd encI 1 v l w) (hn : l.length ≤ 1000000) : Fn Try.prog 80 [.int .i64 a, .int .i64 ((l.length : Int) - 1), v].toArray w (fun u _ => u = .bool (decide (S.In a l))) := by
  have h := c80 (lo := a) (hi := (l.length : Int) - 1) h0 hn
  rwa [show decide (∀ x ∈ l, a ≤ x ∧ x ≤ (l.length : Int) - 1) = decide (S.In a l) from decide_eq_decide.2 in_iff] at h

theorem c116 {v : Value} {l : List Int} {x : Int} {w : World} (h0 : Rd encI 1 v l w) (hn : l.length ≤ 1000000)  :
    Fn Try.prog 116 [v, (.int .i64 x)].toArray w (fun u _ => u = .int .i64 (S.place l x)) := by
  refine fn_of' (args := [v, (.int .i64 x)]) Try.func116 rfl (ent Try.func116 (by kernel_rfl) rfl) rfl rfl (fun hH => ?_)
  refine seq (region (ops_y hH rfl rfl (yv_assign rfl) (ops_nil (thn_n (seq (seq (region (ops_y hH rfl rfl (yv_move rfl) ?_))))))))
  refine ops_y hH rfl rfl (yv_len T.sl22 rfl (h0.now hH (n := 0) rfl).is) ?_
  refine ops_y hH rfl rfl (yv_move rfl) (ops_nil (thn_n (block ?_)))
  refine loop (S := Nat) (fun k => [(8, (.int .i64 (k : Int))), (0, v), (1, (.int .i64 x)), (7, (.int .i64 (l.length : Int)))]) (fun k w1 => Heap [base w] w1 ∧ k ≤ l.length ∧ ∀ i, i < k → (fun y : Int => decide (y = x)) (nth l (i : Int)) = false) (fun k => l.length - k) (0) (Sub.cons rfl (Sub.cons rfl (Sub.cons rfl (Sub.cons rfl (Sub.nil _))))) ?_ ?_
  · exact ⟨hH, by omega, S.all_zero⟩
  · rintro k w1 ⟨hH2, hk, hall⟩
    show Holds _ _ _ _ _ [(8, (.int .i64 (k : Int))), (0, v), (1, (.int .i64 x)), (7, (.int .i64 (l.length : Int)))] _ _
    refine seq (region ?_)
    refine ops_y hH2 rfl rfl (yv_lss rfl rfl) ?_
    refine ops_nil (thn_n (seq ?_))
    by_cases hc3 : (k : Int) < (l.length : Int)
    · skip
      refine cond_t rfl (decide_eq_true hc3) ?_
      refine skip (thn_n (seq (block (seq (region (ops_y hH2 rfl rfl (yv_move rfl) (ops_y hH2 rfl rfl (yv_assign rfl) (ops_nil (thn_n ?_)))))))))
      refine seq (region (ops_y hH2 rfl rfl (yv_move rfl) (ops_y hH2 rfl rfl (yv_move rfl) (ops_y hH2 rfl rfl (yv_move rfl) ?_))))
      refine ops_y hH2 rfl rfl (yv_index T.sl22 rfl rfl (h0.now hH2 (n := 0) rfl).is (by omega)) ?_
      refine ops_y hH2 rfl rfl (yv_load T.one3 rfl (fun _ hw => Rd.at (h0.now hw (n := 0) rfl) (i := (k : Int)) (by omega) (j := 0) rfl)) ?_
      refine ops_y hH2 rfl rfl (yv_eql rfl rfl) ?_
      refine ops_nil (thn_n ?_)
      by_cases hc4 : x = (nth l (k : Int))
      · skip
        have hp : (fun y : Int => decide (y = x)) (nth l (k : Int)) = true := decide_eq_true (by omega)
        refine cond_t rfl (decide_eq_true hc4) ?_
        refine seq (region (ops_y hH2 rfl rfl (yv_move rfl) (ops_y hH2 rfl rfl (yv_assign rfl) (ops_nil (thn_n (ret (blk_r (thn_r (lp_r ?_)))))))))
        refine blk_r (thn_r ?_)
        refine fin hH2 (fun w' hf => (res1 rfl (show RV _ _ _ (.tmp 4) _ from rfl))) (fun w' hf => ?_)
        first | exact congrArg (Value.int .i64) (idx_hit (k := k) (by omega) hall hp).symm | exact congrArg (Value.int .i64) (idx_miss (fun i hi => hall i (by omega))).symm
      · skip
        have hp : (fun y : Int => decide (y = x)) (nth l (k : Int)) = false := decide_eq_false (by omega)
        refine cond_f rfl (decide_eq_false hc4) ?_
        refine skip (blk_n (thn_n (region ?_)))
        refine ops_y hH2 rfl rfl (yv_add rfl rfl (by omega)) ?_
        refine ops_y hH2 rfl rfl (yv_move rfl) (ops_nil ?_)
        refine lp_n (k + 1) (Sub.cons rfl (Sub.cons rfl (Sub.cons rfl (Sub.cons rfl (Sub.nil _))))) ?_ ?_
        · exact ⟨hH2, by omega, S.all_snoc hall hp⟩
        · first | (dsimp only; omega) | (show _ < _; omega)
    · skip
      refine cond_f rfl (decide_eq_false hc3) ?_
      refine exit (thn_x (lp_x (blk_here (thn_n (seq (region (ops_y hH2 rfl rfl (yv_assign rfl) (ops_nil (thn_n ?_)))))))))
      refine ret ?_
      refine fin hH2 (fun w' hf => (res1 rfl (show RV _ _ _ (.tmp 4) _ from rfl))) (fun w' hf => ?_)
      first | exact congrArg (Value.int .i64) (idx_hit (k := k) (by omega) hall hp).symm | exact congrArg (Value.int .i64) (idx_miss (fun i hi => hall i (by omega))).symm

theorem c108 {v : Value} {l : List Int} {x : Int} {w : World} (h0 : Rd encI 1 v l w) (hn : l.length ≤ 1000000)  :
    Fn Try.prog 108 [v, (.int .i64 x)].toArray w (fun u _ => u = .bool (decide (0 ≤ S.place l x))) := by
  refine fn_of' (args := [v, (.int .i64 x)]) Try.func108 rfl (ent Try.func108 (by kernel_rfl) rfl) rfl rfl (fun hH => ?_)
  refine seq (region (ops_y hH rfl rfl (yv_assign rfl) (ops_nil (thn_n (seq (region (ops_y hH rfl rfl (yv_move rfl) (ops_y hH rfl rfl (yv_move rfl) ?_))))))))
  refine op_fnV rfl rfl rfl hH (c116 (h0.now hH (n := 0) rfl) (by omega)) (fun w1 hH2 => ?_)
  refine ops_y hH2 rfl rfl (yv_geq rfl rfl) ?_
  refine ops_y hH2 rfl rfl (yv_assign rfl) (ops_nil (thn_n (ret ?_)))
  refine fin hH2 (fun w' hf => (res1 rfl (show RV _ _ _ (.tmp 4) _ from rfl))) (fun w' hf => ?_)
  rfl

theorem c77 {v : Value} {l : List Int} {a : Int} {w : World} (h0 : Rd encI 1 v l w) (hn : l.length ≤ 1000000)  :
    Fn Try.prog 77 [v, (.int .i64 a)].toArray w (fun u _ => u = .int .i64 (S.check l a)) := by
  refine fn_of' (args := [v, (.int .i64 a)]) Try.func77 rfl (ent Try.func77 (by kernel_rfl) rfl) rfl rfl (fun hH => ?_)
  refine seq (region (ops_y hH rfl rfl (yv_assign rfl) (ops_nil (thn_n (seq (block (seq (region (ops_y hH rfl rfl (yv_move rfl) ?_)))))))))
  refine ops_y hH rfl rfl (yv_len T.sl22 rfl (h0.now hH (n := 0) rfl).is) ?_
  refine op_lit (us := [(0, (.int .i64 (l.length : Int)))]) T.el22_encI [(l.length : Int)] rfl (by decide) rfl (fun a ha => by simp [ha.ev (show ev _ (.tmp 9) = some _ from rfl)]) (fun w => by kernel_rfl) hH (fun u1 lo3 hi4 w2 hH5 => ?_)
  refine op_fnV rfl rfl rfl hH5 (c80_1 (Heap.rdw T.el22_encI hH5 (n := 0) rfl)) (fun w6 hH7 => ?_)
  refine ops_y hH7 rfl rfl (yv_not rfl) ?_
  refine ops_y hH7 rfl rfl (yv_assign rfl) (ops_nil (thn_n ?_))
  by_cases hc8 : 1 ≤ (l.length : Int) ∧ (l.length : Int) ≤ 10
  · skip
    refine cond_f rfl (not_decide_n hc8) ?_
    refine seq (region (ops_y hH7 rfl rfl (yv_move rfl) (ops_y hH7 rfl rfl (yv_move rfl) ?_)))
    refine ops_y hH7 rfl rfl (yv_len T.sl22 rfl (h0.now hH7 (n := 1) rfl).is) ?_
    refine ops_y hH7 rfl rfl (yv_sub rfl rfl (by omega)) ?_
    refine ops_y hH7 rfl rfl (yv_move rfl) ?_
    refine op_fnV rfl rfl rfl hH7 (c80_in (h0.now hH7 (n := 1) rfl) (by omega)) (fun w9 hH10 => ?_)
    refine ops_y hH10 rfl rfl (yv_not rfl) ?_
    refine ops_y hH10 rfl rfl (yv_assign rfl) (ops_nil (thn_n ?_))
    by_cases hc11 : S.In a l
    · skip
      refine cond_f rfl (not_decide_n hc11) ?_
      refine skip (blk_n (thn_n (seq (seq (region (ops_y hH10 rfl rfl (yv_move rfl) ?_))))))
      refine ops_y hH10 rfl rfl (yv_len T.sl22 rfl (h0.now hH10 (n := 1) rfl).is) ?_
      refine ops_y hH10 rfl rfl (yv_move rfl) (ops_nil (thn_n (block ?_)))
      refine loop (S := Nat) (fun k => [(23, (.int .i64 (k : Int))), (0, v), (21, v), (22, (.int .i64 (l.length : Int)))]) (fun k w1 => Heap [ow lo3 hi4 3 1 encI u1 [(l.length : Int)], base w] w1 ∧ k ≤ l.length ∧ ∀ i, i < k → ¬ (0 ≤ nth l (i : Int) ∧ 0 ≤ S.place (l.take (i : Int).toNat) (nth l (i : Int)))) (fun k => l.length - k) (0) (Sub.cons rfl (Sub.cons rfl (Sub.cons rfl (Sub.cons rfl (Sub.nil _))))) ?_ ?_
      · exact ⟨hH10, by omega, S.all_zero⟩
      · rintro k w12 ⟨hH13, hk, hall⟩
        show Holds _ _ _ _ _ [(23, (.int .i64 (k : Int))), (0, v), (21, v), (22, (.int .i64 (l.length : Int)))] _ _
        refine seq (region ?_)
        refine ops_y hH13 rfl rfl (yv_lss rfl rfl) ?_
        refine ops_nil (thn_n (seq ?_))
        by_cases hc14 : (k : Int) < (l.length : Int)
        · skip
          refine cond_t rfl (decide_eq_true hc14) ?_
          refine skip (thn_n (seq (block (seq (region (ops_y hH13 rfl rfl (yv_move rfl) ?_))))))
          refine ops_y hH13 rfl rfl (yv_index T.sl22 rfl rfl (h0.now hH13 (n := 1) rfl).is (by omega)) ?_
          refine ops_y hH13 rfl rfl (yv_load T.one3 rfl (fun _ hw => Rd.at (h0.now hw (n := 1) rfl) (i := (k : Int)) (by omega) (j := 0) rfl)) ?_
          refine ops_y hH13 rfl rfl (yv_assign rfl) (ops_y hH13 rfl rfl (yv_assign rfl) (ops_nil (thn_n (seq (region (ops_y hH13 rfl rfl (yv_move rfl) ?_))))))
          refine ops_y hH13 rfl rfl (yv_geq rfl rfl) ?_
          refine ops_y hH13 rfl rfl (yv_move rfl) ?_
          by_cases hc15 : 0 ≤ (nth l (k : Int))
          · skip
            refine guard_yes rfl rfl (decide_eq_true hc15) ?_
            refine ops_y hH13 rfl rfl (yv_move rfl) ?_
            refine guard_yes rfl rfl (decide_eq_true hc15) ?_
            refine ops_y hH13 rfl rfl (yv_move rfl) ?_
            refine guard_yes rfl rfl (decide_eq_true hc15) ?_
            refine ops_y hH13 rfl rfl (yv_cut_hi T.sl22 rfl rfl (h0.now hH13 (n := 1) rfl).is (by omega)) ?_
            refine guard_yes rfl rfl (decide_eq_true hc15) ?_
            refine ops_y hH13 rfl rfl (yv_move rfl) ?_
            refine guard_yes rfl rfl (decide_eq_true hc15) ?_
            refine op_fnV rfl rfl rfl hH13 (c108 (Rd.upto (h0.now hH13 (n := 1) rfl) (hi := (k : Int).toNat) (by omega)) (by first | omega | (rw [List.length_take]; omega))) (fun w16 hH17 => ?_)
            refine ops_y hH17 rfl rfl (yv_pick_t rfl (decide_eq_true hc15) rfl) ?_
            refine ops_nil (thn_n ?_)
            by_cases hc18 : 0 ≤ S.place (l.take (k : Int).toNat) (nth l (k : Int))
            · skip
              have hbad : ¬ S.Diff l := S.not_diff (k := k) (by omega) (by omega) (by omega)
              refine cond_t rfl (decide_eq_true hc18) ?_
              refine seq (region (ops_y hH17 rfl rfl (yv_assign rfl) (ops_nil (thn_n (ret (blk_r (thn_r (lp_r (blk_r ?_)))))))))
              refine thn_r ?_
              have hH19 := (hH17.sub (List.Sublist.cons _ (List.Sublist.refl _)))
              refine fin hH19 (fun w' hf => (res1 rfl (show RV _ _ _ (.tmp 4) _ from rfl))) (fun w' hf => ?_)
              first | exact congrArg (Value.int .i64) (S.ck1 (by omega)).symm | exact congrArg (Value.int .i64) (S.ck2 (by omega) ‹_›).symm | exact congrArg (Value.int .i64) (S.ck3 (by omega) ‹_› hbad).symm | exact congrArg (Value.int .i64) (S.ck4 (by omega) ‹_› (S.diff_of (fun i hi => hall i (by omega)))).symm
            · skip
              refine cond_f rfl (decide_eq_false hc18) ?_
              refine skip (blk_n (thn_n (region ?_)))
              refine ops_y hH17 rfl rfl (yv_add rfl rfl (by omega)) ?_
              refine ops_y hH17 rfl rfl (yv_move rfl) (ops_nil ?_)
              refine lp_n (k + 1) (Sub.cons rfl (Sub.cons rfl (Sub.cons rfl (Sub.cons rfl (Sub.nil _))))) ?_ ?_
              · exact ⟨hH17, by omega, S.all_snoc hall (by omega)⟩
              · first | (dsimp only; omega) | (show _ < _; omega)
          · skip
            refine guard_no rfl rfl (decide_eq_false hc15) rfl ?_
            refine guard_no rfl rfl (decide_eq_false hc15) rfl ?_
            refine guard_no rfl rfl (decide_eq_false hc15) rfl ?_
            refine guard_no rfl rfl (decide_eq_false hc15) rfl ?_
            refine guard_no rfl rfl (decide_eq_false hc15) rfl ?_
            refine ops_y hH13 rfl rfl (yv_pick_f rfl (decide_eq_false hc15) rfl) ?_
            refine ops_nil (thn_n ?_)
            refine cond_f rfl rfl ?_
            refine skip (blk_n (thn_n (region ?_)))
            refine ops_y hH13 rfl rfl (yv_add rfl rfl (by omega)) ?_
            refine ops_y hH13 rfl rfl (yv_move rfl) (ops_nil ?_)
            refine lp_n (k + 1) (Sub.cons rfl (Sub.cons rfl (Sub.cons rfl (Sub.cons rfl (Sub.nil _))))) ?_ ?_
            · exact ⟨hH13, by omega, S.all_snoc hall (by omega)⟩
            · first | (dsimp only; omega) | (show _ < _; omega)
        · skip
          refine cond_f rfl (decide_eq_false hc14) ?_
          refine exit (thn_x (lp_x (blk_here (thn_n (seq (region (ops_y hH13 rfl rfl (yv_assign rfl) (ops_nil (thn_n ?_)))))))))
          refine ret ?_
          have hH20 := (hH13.sub (List.Sublist.cons _ (List.Sublist.refl _)))
          refine fin hH20 (fun w' hf => (res1 rfl (show RV _ _ _ (.tmp 4) _ from rfl))) (fun w' hf => ?_)
          first | exact congrArg (Value.int .i64) (S.ck1 (by omega)).symm | exact congrArg (Value.int .i64) (S.ck2 (by omega) ‹_›).symm | exact congrArg (Value.int .i64) (S.ck3 (by omega) ‹_› hbad).symm | exact congrArg (Value.int .i64) (S.ck4 (by omega) ‹_› (S.diff_of (fun i hi => hall i (by omega)))).symm
    · skip
      refine cond_t rfl (not_decide_t hc11) ?_
      refine seq (region (ops_y hH10 rfl rfl (yv_assign rfl) (ops_nil (thn_n (ret (blk_r (thn_r ?_)))))))
      have hH21 := (hH10.sub (List.Sublist.cons _ (List.Sublist.refl _)))
      refine fin hH21 (fun w' hf => (res1 rfl (show RV _ _ _ (.tmp 4) _ from rfl))) (fun w' hf => ?_)
      first | exact congrArg (Value.int .i64) (S.ck1 (by omega)).symm | exact congrArg (Value.int .i64) (S.ck2 (by omega) ‹_›).symm | exact congrArg (Value.int .i64) (S.ck3 (by omega) ‹_› hbad).symm | exact congrArg (Value.int .i64) (S.ck4 (by omega) ‹_› (S.diff_of (fun i hi => hall i (by omega)))).symm
  · skip
    refine cond_t rfl (not_decide_t hc8) ?_
    refine seq (region (ops_y hH7 rfl rfl (yv_assign rfl) (ops_nil (thn_n (ret (blk_r (thn_r ?_)))))))
    have hH22 := (hH7.sub (List.Sublist.cons _ (List.Sublist.refl _)))
    refine fin hH22 (fun w' hf => (res1 rfl (show RV _ _ _ (.tmp 4) _ from rfl))) (fun w' hf => ?_)
    first | exact congrArg (Value.int .i64) (S.ck1 (by omega)).symm | exact congrArg (Value.int .i64) (S.ck2 (by omega) ‹_›).symm | exact congrArg (Value.int .i64) (S.ck3 (by omega) ‹_› hbad).symm | exact congrArg (Value.int .i64) (S.ck4 (by omega) ‹_› (S.diff_of (fun i hi => hall i (by omega)))).symm

theorem c23 {v : Value} {l : List Int} {w : World} (h0 : Rd encI 1 v l w) (hn : l.length ≤ 1000000)  :
    Fn Try.prog 23 [v].toArray w (fun u _ => u = .int .i64 (S.check l 0)) := by
  refine fn_of' (args := [v]) Try.func23 rfl (ent Try.func23 (by kernel_rfl) rfl) rfl rfl (fun hH => ?_)
  refine seq (region (ops_y hH rfl rfl (yv_assign rfl) (ops_nil (thn_n (seq (region (ops_y hH rfl rfl (yv_move rfl) ?_)))))))
  refine op_fnV rfl rfl rfl hH (c77 (h0.now hH (n := 0) rfl) (by omega)) (fun w1 hH2 => ?_)
  refine ops_y hH2 rfl rfl (yv_assign rfl) (ops_nil (thn_n (ret ?_)))
  refine fin hH2 (fun w' hf => (res1 rfl (show RV _ _ _ (.tmp 2) _ from rfl))) (fun w' hf => ?_)
  rfl

theorem c54 {v : Value} {l : List Int} {w : World} (h0 : Rd encI 1 v l w) (hn : l.length ≤ 1000000)  :
    Fn Try.prog 54 [v].toArray w (fun u _ => u = .int .i64 (S.check l (-1))) := by
  refine fn_of' (args := [v]) Try.func54 rfl (ent Try.func54 (by kernel_rfl) rfl) rfl rfl (fun hH => ?_)
  refine seq (region (ops_y hH rfl rfl (yv_assign rfl) (ops_nil (thn_n (seq (region (ops_y hH rfl rfl (yv_move rfl) ?_)))))))
  refine op_fnV rfl rfl rfl hH (c77 (h0.now hH (n := 0) rfl) (by omega)) (fun w1 hH2 => ?_)
  refine ops_y hH2 rfl rfl (yv_assign rfl) (ops_nil (thn_n (ret ?_)))
  refine fin hH2 (fun w' hf => (res1 rfl (show RV _ _ _ (.tmp 2) _ from rfl))) (fun w' hf => ?_)
  rfl

theorem c106 {v : Value} {l : List Int} {w : World} (h0 : Rd encI 1 v l w) (hn : l.length ≤ 1000000) (h1 : 1 ≤ l.length)  :
    Fn Try.prog 106 [v].toArray w (fun u _ => u = .int .i64 (S.minTo l (l.length - 1))) := by
  refine fn_of' (args := [v]) Try.func106 rfl (ent Try.func106 (by kernel_rfl) rfl) rfl rfl (fun hH => ?_)
  refine seq (region (ops_y hH rfl rfl (yv_assign rfl) (ops_nil (thn_n (seq (seq (region (ops_y hH rfl rfl (yv_move rfl) ?_))))))))
  refine ops_y hH rfl rfl (yv_len T.sl22 rfl (h0.now hH (n := 0) rfl).is) ?_
  refine ops_y hH rfl rfl (yv_lss rfl rfl) ?_
  refine ops_nil (thn_n ?_)
  have hc1 : ¬ ((l.length : Int) < 1) := by omega
  refine cond_f rfl (decide_eq_false hc1) ?_
  refine skip (thn_n (seq (region (ops_y hH rfl rfl (yv_move rfl) ?_))))
  refine ops_y hH rfl rfl (yv_index T.sl22 rfl rfl (h0.now hH (n := 0) rfl).is (by omega)) ?_
  refine ops_y hH rfl rfl (yv_load T.one3 rfl (fun _ hw => Rd.at (h0.now hw (n := 0) rfl) (i := 0) (by omega) (j := 0) rfl)) ?_
  refine ops_y hH rfl rfl (yv_assign rfl) (ops_nil (thn_n (seq (seq (region (ops_y hH rfl rfl (yv_assign rfl) (ops_nil (thn_n (block ?_)))))))))
  refine loop (S := Nat) (fun k => [(3, (.int .i64 (S.minTo l k))), (4, (.int .i64 ((k : Int) + 1))), (0, v), (2, (.int .i64 0))]) (fun k w1 => Heap [base w] w1 ∧ k + 1 ≤ l.length) (fun k => l.length - k) (0) (Sub.cons rfl (Sub.cons rfl (Sub.cons rfl (Sub.cons rfl (Sub.nil _))))) ?_ ?_
  · exact ⟨hH, by omega⟩
  · rintro k w2 ⟨hH3, hk⟩
    show Holds _ _ _ _ _ [(3, (.int .i64 (S.minTo l k))), (4, (.int .i64 ((k : Int) + 1))), (0, v), (2, (.int .i64 0))] _ _
    refine seq (seq (region (ops_y hH3 rfl rfl (yv_move rfl) (ops_y hH3 rfl rfl (yv_move rfl) ?_))))
    refine ops_y hH3 rfl rfl (yv_len T.sl22 rfl (h0.now hH3 (n := 0) rfl).is) ?_
    refine ops_y hH3 rfl rfl (yv_lss rfl rfl) ?_
    refine ops_nil (thn_n ?_)
    by_cases hc4 : ((k : Int) + 1) < (l.length : Int)
    · skip
      refine cond_t rfl (decide_eq_true hc4) ?_
      refine skip (thn_n (seq (block (region (ops_y hH3 rfl rfl (yv_move rfl) (ops_y hH3 rfl rfl (yv_move rfl) (ops_y hH3 rfl rfl (yv_move rfl) ?_)))))))
      refine ops_y hH3 rfl rfl (yv_index T.sl22 rfl rfl (h0.now hH3 (n := 0) rfl).is (by omega)) ?_
      refine ops_y hH3 rfl rfl (yv_load T.one3 rfl (fun _ hw => Rd.at (h0.now hw (n := 0) rfl) (i := ((k : Int) + 1)) (by omega) (j := 0) rfl)) ?_
      refine ops_y hH3 rfl rfl (yv_min rfl rfl) ?_
      refine ops_y hH3 rfl rfl (yv_assign rfl) (ops_nil (blk_n (thn_n (region (ops_y hH3 rfl rfl (yv_move rfl) ?_)))))
      refine ops_y hH3 rfl rfl (yv_add rfl rfl (by omega)) ?_
      refine ops_y hH3 rfl rfl (yv_assign rfl) (ops_nil ?_)
      refine lp_n (k + 1) (Sub.cons rfl (Sub.cons (congrArg (fun z => some (Value.int .i64 z)) (by omega)) (Sub.cons rfl (Sub.cons rfl (Sub.nil _))))) ?_ ?_
      · exact ⟨hH3, by omega⟩
      · first | (dsimp only; omega) | (show _ < _; omega)
    · skip
      refine cond_f rfl (decide_eq_false hc4) ?_
      refine exit (thn_x (lp_x (blk_here (thn_n (seq (region (ops_y hH3 rfl rfl (yv_move rfl) (ops_y hH3 rfl rfl (yv_assign rfl) (ops_nil ?_)))))))))
      refine thn_n (ret ?_)
      refine fin hH3 (fun w' hf => (res1 rfl (show RV _ _ _ (.tmp 2) _ from rfl))) (fun w' hf => ?_)
      have hk2 : k = l.length - 1 := by omega
      subst hk2; rfl

theorem c112 {v : Value} {l : List Int} {w : World} (h0 : Rd encI 1 v l w) (hn : l.length ≤ 1000000)  :
    Fn Try.prog 112 [v].toArray w (fun u w => Own 3 1 encI u l w) := by
  refine fn_of' (args := [v]) Try.func112 rfl (ent Try.func112 (by kernel_rfl) rfl) rfl rfl (fun hH => ?_)
  refine seq (region (ops_y hH rfl rfl (yv_assign rfl) (ops_nil (thn_n (seq (seq (region (ops_y hH rfl rfl (yv_move rfl) ?_))))))))
  refine ops_y hH rfl rfl (yv_eqNil T.sl22.1 rfl (h0.now hH (n := 0) rfl).is) ?_
  refine ops_nil (thn_n ?_)
  by_cases hc1 : isNilS v = true
  · skip
    have hl : l = [] := List.eq_nil_of_length_eq_zero (isNilS_len h0.is ‹_›)
    refine cond_t rfl hc1 ?_
    refine seq (region (ops_y hH rfl rfl (yv_assign rfl) (ops_nil (thn_n (ret (thn_r ?_))))))
    refine fin hH (fun w' hf => (res1 rfl (show RV _ _ _ (.tmp 2) _ from rfl))) (fun w' hf => ?_)
    first | exact (by rw [hl]; exact own_nil) | exact (by have h := Heap.own hf (n := 0) rfl; simpa using h)
  · skip
    refine cond_f rfl (Bool.eq_false_iff.2 hc1) ?_
    refine skip (thn_n (seq (region ?_)))
    refine op_lit (us := []) T.el22_encI ([] : List Int) rfl (by decide) rfl (fun a ha => by simp) (fun w => by kernel_rfl) hH (fun u2 lo4 hi5 w3 hH6 => ?_)
    refine ops_y hH6 rfl rfl (yv_move rfl) ?_
    refine op_append (n := 0) T.el22_encI rfl rfl rfl hH6 rfl (h0.now hH6 (n := 1) rfl) (by first | omega | (simp only [List.length_append, List.length_cons, List.length_nil]; omega)) (fun u7 lo9 hi10 w8 hH11 => ?_)
    refine ops_y hH11 rfl rfl (yv_assign rfl) (ops_nil (thn_n (ret ?_)))
    refine fin (hH11.front (n := 1) rfl) (fun w' hf => (res1 rfl (show RV _ _ _ (.tmp 2) _ from rfl))) (fun w' hf => ?_)
    first | exact (by rw [hl]; exact own_nil) | exact (by have h := Heap.own hf (n := 0) rfl; simpa using h)

end Go.Fip

set_option linter.unusedVariables false
set_option linter.unusedSimpArgs false
set_option linter.unusedSectionVars false
set_option linter.unnecessarySimpa false
namespace Go.Fip
open Go.Proofs Go.RowKit

theorem c102 {v : Value} {l : List Int} {w : World} (h0 : Rd encI 1 v l w) (hn : l.length ≤ 1000000) (h1 : 1 ≤ l.length)  :
    Fn Try.prog 102 [v].toArray w (fun u w => ∃ b v, u = .pointer (some ⟨b, 0, none⟩) ∧ Bench 89 b v l w) := by
  refine fn_of' (args := [v]) Try.func102 rfl (ent Try.func102 (by kernel_rfl) rfl) rfl rfl (fun hH => ?_)
  refine seq (region (ops_y hH rfl rfl (yv_assign rfl) (ops_nil (thn_n (seq (region (ops_y hH rfl rfl (yv_move rfl) ?_)))))))
  refine op_fn rfl rfl rfl hH (c112 (h0.now hH (n := 0) rfl) (by omega)) (fun u3 w1 lo4 hi5 hH2 hv6 => ?_)
  have hH7 := Heap.toOw hH2 (n := 0) rfl
  obtain ⟨_, _, hb8, _⟩ := (Heap.rdw T.el22_encI hH7 (n := 0) rfl).is
  refine ops_y hH7 rfl rfl (yv_build (v := (.agg #[u3])) (us := [(0, u3)]) (fun a ha => by simp [ha.ev (show ev _ (.tmp 4) = some _ from rfl)]) (fun w => by rw [hb8]; kernel_rfl)) ?_
  refine ops_y hH7 rfl rfl (yv_build (v := (.agg #[u3])) (us := [(0, (.agg #[u3]))]) (fun a ha => by simp [ha.ev (show ev _ (.tmp 5) = some _ from rfl)]) (fun w => by kernel_rfl)) ?_
  refine op_box (us := [u3]) rfl rfl rfl hH7 (fun b9 w10 hH11 => ?_)
  refine ops_y hH11 rfl rfl (yv_assign rfl) (ops_nil (thn_n (ret ?_)))
  refine fin (hH11.front (n := 2) rfl) (fun w' hf => (res1 rfl (show RV _ _ _ (.tmp 2) _ from rfl))) (fun w' hf => ?_)
  exact ⟨_, _, rfl, Heap.bench hf (n := 0) (m := 1) rfl rfl (by decide) (by omega)⟩

theorem c72 {v : Value} {l : List Int} {w : World} (h0 : Rd encI 1 v l w) (hn : l.length ≤ 1000000) (hj : S.J l)  :
    Fn Try.prog 72 [v].toArray w (fun u w => ∃ b v, u = .tuple #[.pointer (some ⟨b, 0, none⟩), .int .i64 0] ∧ Bench 89 b v l w) := by
  refine fn_of' (args := [v]) Try.func72 rfl (ent Try.func72 (by kernel_rfl) rfl) rfl rfl (fun hH => ?_)
  have hc := S.check_iff.2 hj
  have hl1 := hj.1
  refine seq (region (ops_y hH rfl rfl (yv_assign rfl) (ops_y hH rfl rfl (yv_assign rfl) (ops_nil (thn_n (seq (seq (region (ops_y hH rfl rfl (yv_move rfl) ?_)))))))))
  have hev3 : Fn Try.prog 23 [v].toArray _ _ := c23 (h0.now hH (n := 0) rfl) (by omega)
  simp only [hc] at hev3
  refine op_fnV rfl rfl rfl hH (hev3) (fun w1 hH2 => ?_)
  refine ops_y hH2 rfl rfl (yv_assign rfl) (ops_nil (thn_n (seq (region (ops_y hH2 rfl rfl (yv_move rfl) ?_)))))
  refine ops_y hH2 rfl rfl (yv_neq rfl rfl) ?_
  refine ops_nil (thn_n ?_)
  refine cond_f rfl rfl ?_
  refine skip (thn_n (seq (region (ops_y hH2 rfl rfl (yv_move rfl) ?_))))
  refine op_fn rfl rfl rfl hH2 (c102 (h0.now hH2 (n := 0) rfl) (by omega) (by omega)) (fun u6 w4 lo7 hi8 hH5 hv9 => ?_)
  obtain ⟨b10, r11, hu, hb12⟩ := hv9
  subst hu
  obtain ⟨g13, hH14⟩ := Heap.toBench hH5 (n := 0) rfl (fun w' h => by obtain ⟨b1, v1, e, h⟩ := h; cases e; exact ⟨v1, h⟩) hb12 (by omega)
  refine ops_y hH14 rfl rfl (yv_assign rfl) (ops_y hH14 rfl rfl (yv_assign rfl) (ops_nil (thn_n (ret ?_))))
  refine fin (hH14.front (n := 2) rfl) (fun w' hf => (res2 rfl (show RV _ _ _ (.tmp 2) _ from rfl) (show RV _ _ _ (.tmp 3) _ from rfl))) (fun w' hf => ?_)
  exact ⟨_, _, rfl, Heap.bench hf (n := 1) (m := 0) rfl rfl (by decide) (by omega)⟩

theorem c72n {v : Value} {l : List Int} {w : World} (h0 : Rd encI 1 v l w) (hn : l.length ≤ 1000000) (hc : ¬ S.check l 0 = 0)  :
    Fn Try.prog 72 [v].toArray w (fun u _ => u = .tuple #[.pointer none, .int .i64 (S.check l 0)]) := by
  refine fn_of' (args := [v]) Try.func72 rfl (ent Try.func72 (by kernel_rfl) rfl) rfl rfl (fun hH => ?_)
  refine seq (region (ops_y hH rfl rfl (yv_assign rfl) (ops_y hH rfl rfl (yv_assign rfl) (ops_nil (thn_n (seq (seq (region (ops_y hH rfl rfl (yv_move rfl) ?_)))))))))
  refine op_fnV rfl rfl rfl hH (c23 (h0.now hH (n := 0) rfl) (by omega)) (fun w1 hH2 => ?_)
  refine ops_y hH2 rfl rfl (yv_assign rfl) (ops_nil (thn_n (seq (region (ops_y hH2 rfl rfl (yv_move rfl) ?_)))))
  refine ops_y hH2 rfl rfl (yv_neq rfl rfl) ?_
  refine ops_nil (thn_n ?_)
  have hc3 : ¬ ((S.check l 0) = 0) := hc
  refine cond_t rfl (not_decide_t hc3) ?_
  refine seq (region (ops_y hH2 rfl rfl (yv_move rfl) (ops_y hH2 rfl rfl (yv_assign rfl) (ops_y hH2 rfl rfl (yv_assign rfl) (ops_nil (thn_n (ret (thn_r ?_))))))))
  refine fin hH2 (fun w' hf => (res2 rfl (show RV _ _ _ (.tmp 2) _ from rfl) (show RV _ _ _ (.tmp 3) _ from rfl))) (fun w' hf => ?_)
  rfl

theorem c105 {v : Value} {l : List Int} {a : Int} {w : World} (h0 : Rd encI 1 v l w) (hj : S.J l) (ha : 0 ≤ a) (ha2 : a < (l.length : Int))  :
    Fn Try.prog 105 [(.agg #[v]), (.int .i64 a)].toArray w (fun u w => Own 3 1 encI u (S.circ l a) w) := by
  refine fn_of' (args := [(.agg #[v]), (.int .i64 a)]) Try.func105 rfl (ent Try.func105 (by kernel_rfl) rfl) rfl rfl (fun hH => ?_)
  have hl10 := hj.2.1
  refine seq (region ?_)
  refine op_box (us := [v]) rfl rfl rfl hH (fun b1 w2 hH3 => ?_)
  refine ops_y hH3 rfl rfl (yv_assign rfl) (ops_nil (thn_n (seq (region (ops_y hH3 rfl rfl (yv_move rfl) ?_)))))
  refine op_lit (us := [(0, (.int .i64 a))]) T.el22_encI [a] rfl (by decide) rfl (fun a ha => by simp [ha.ev (show ev _ (.tmp 7) = some _ from rfl)]) (fun w => by kernel_rfl) hH3 (fun u4 lo6 hi7 w5 hH8 => ?_)
  refine ops_y hH8 rfl rfl (yv_assign rfl) (ops_nil (thn_n (seq (seq (region ?_)))))
  refine ops_y hH8 rfl rfl (yv_field T.f87_0 rfl) ?_
  refine ops_y hH8 rfl rfl (yv_load T.one22 rfl (fun _ hw => Heap.cellw hw (n := 1) rfl rfl)) ?_
  refine ops_y hH8 rfl rfl (yv_move rfl) ?_
  refine ops_y hH8 rfl rfl (yv_index T.sl22 rfl rfl (h0.now hH8 (n := 2) rfl).is (by omega)) ?_
  refine ops_y hH8 rfl rfl (yv_load T.one3 rfl (fun _ hw => Rd.at (h0.now hw (n := 2) rfl) (i := a) (by omega) (j := 0) rfl)) ?_
  refine ops_y hH8 rfl rfl (yv_assign rfl) (ops_nil (thn_n (block ?_)))
  refine loop (S := Nat × Value × Nat × Nat) (fun (k, v_5, lo_5, hi_5) => [(6, (.int .i64 (S.it l (k + 1) a))), (5, v_5), (1, (.int .i64 a)), (2, (.pointer (some ⟨b1, 0, none⟩))), (4, (.slice none 0 0))]) (fun (k, v_5, lo_5, hi_5) w1 => Heap [ow lo_5 hi_5 3 1 encI v_5 (S.circTo l a (k + 1)), bx b1 87 [v], base w] w1 ∧ k < S.per l a) (fun (k, v_5, lo_5, hi_5) => S.per l a - k) (0, u4, lo6, hi7) (Sub.cons rfl (Sub.cons rfl (Sub.cons rfl (Sub.cons rfl (Sub.cons rfl (Sub.nil _)))))) ?_ ?_
  · exact ⟨(Heap.recast (n := 0) hH8 rfl (rfl)), S.per_pos⟩
  · rintro ⟨k, v_5, lo_5, hi_5⟩ w9 ⟨hH10, hk⟩
    show Holds _ _ _ _ _ [(6, (.int .i64 (S.it l (k + 1) a))), (5, v_5), (1, (.int .i64 a)), (2, (.pointer (some ⟨b1, 0, none⟩))), (4, (.slice none 0 0))] _ _
    have hit := hj.it ha ha2 (k + 1)
    have hpl := (hj.per_at ha ha2).2
    have hcl := S.circTo_length (l := l) (a := a) (k := k + 1)
    refine seq (seq (region (ops_y hH10 rfl rfl (yv_move rfl) (ops_y hH10 rfl rfl (yv_move rfl) ?_))))
    refine ops_y hH10 rfl rfl (yv_neq rfl rfl) ?_
    refine ops_nil (thn_n ?_)
    by_cases hc11 : (S.it l (k + 1) a) = a
    · skip
      have heq : S.it l (k + 1) a = a := by omega
      refine cond_f rfl (not_decide_n hc11) ?_
      refine exit (thn_x (lp_x (blk_here (thn_n (seq (region (ops_y hH10 rfl rfl (yv_move rfl) (ops_y hH10 rfl rfl (yv_assign rfl) (ops_nil ?_)))))))))
      refine thn_n (ret ?_)
      have hH12 := (hH10.sub (List.Sublist.cons_cons _ (List.Sublist.cons _ (List.Sublist.refl _))))
      refine fin (hH12.front (n := 1) rfl) (fun w' hf => (res1 rfl (show RV _ _ _ (.tmp 4) _ from rfl))) (fun w' hf => ?_)
      have hk2 := S.per_done heq hk; rw [S.circ, hk2]; exact Heap.own hf (n := 0) rfl
    · skip
      have hne : ¬ S.it l (k + 1) a = a := ‹_›
      refine cond_t rfl (not_decide_t hc11) ?_
      refine skip (thn_n (seq (block (region (ops_y hH10 rfl rfl (yv_move rfl) (ops_y hH10 rfl rfl (yv_move rfl) ?_))))))
      refine op_lit (us := [(0, (.int .i64 (S.it l (k + 1) a)))]) T.el22_encI [(S.it l (k + 1) a)] rfl (by decide) rfl (fun a ha => by simp [ha.ev (show ev _ (.tmp 23) = some _ from rfl)]) (fun w => by kernel_rfl) hH10 (fun u13 lo15 hi16 w14 hH17 => ?_)
      refine op_append (n := 1) T.el22_encI rfl rfl rfl hH17 rfl (Heap.rdw T.el22_encI hH17 (n := 0) rfl) (by first | omega | (simp only [List.length_append, List.length_cons, List.length_nil]; omega)) (fun u18 lo20 hi21 w19 hH22 => ?_)
      refine ops_y hH22 rfl rfl (yv_assign rfl) (ops_nil (blk_n (thn_n (region ?_))))
      refine ops_y hH22 rfl rfl (yv_field T.f87_0 rfl) ?_
      refine ops_y hH22 rfl rfl (yv_load T.one22 rfl (fun _ hw => Heap.cellw hw (n := 2) rfl rfl)) ?_
      refine ops_y hH22 rfl rfl (yv_move rfl) ?_
      refine ops_y hH22 rfl rfl (yv_index T.sl22 rfl rfl (h0.now hH22 (n := 3) rfl).is (by omega)) ?_
      refine ops_y hH22 rfl rfl (yv_load T.one3 rfl (fun _ hw => Rd.at (h0.now hw (n := 3) rfl) (i := (S.it l (k + 1) a)) (by omega) (j := 0) rfl)) ?_
      refine ops_y hH22 rfl rfl (yv_assign rfl) (ops_nil ?_)
      have hH23 := (hH22.sub (List.Sublist.cons _ (List.Sublist.refl _)))
      refine lp_n (k + 1, u18, lo20, hi21) (Sub.cons rfl (Sub.cons rfl (Sub.cons rfl (Sub.cons rfl (Sub.cons rfl (Sub.nil _)))))) ?_ ?_
      · exact ⟨(Heap.recast (n := 0) hH23 rfl (S.circTo_succ.symm)), S.per_more hne hj ha ha2 hk⟩
      · first | (dsimp only; omega) | (show _ < _; omega)

theorem c86 {v : Value} {l : List Int} {w : World} (h0 : Rd encI 1 v l w) (hn : l.length ≤ 1000000) (hn2 : l.length ≤ 1000)  :
    Fn Try.prog 86 [(.agg #[v])].toArray w (fun u w => Own 3 1 encI u (S.right l.length) w) := by
  refine fn_of' (args := [(.agg #[v])]) Try.func86 rfl (ent Try.func86 (by kernel_rfl) rfl) rfl rfl (fun hH => ?_)
  have hrep : (List.replicate ((l.length : Int)).toNat (0 : Int)).length = l.length := by simp
  refine seq (region ?_)
  refine op_box (us := [v]) rfl rfl rfl hH (fun b1 w2 hH3 => ?_)
  refine ops_y hH3 rfl rfl (yv_assign rfl) (ops_nil (thn_n (seq (region ?_))))
  refine ops_y hH3 rfl rfl (yv_field T.f87_0 rfl) ?_
  refine ops_y hH3 rfl rfl (yv_load T.one22 rfl (fun _ hw => Heap.cellw hw (n := 0) rfl rfl)) ?_
  refine ops_y hH3 rfl rfl (yv_len T.sl22 rfl (h0.now hH3 (n := 1) rfl).is) ?_
  refine op_make T.el22_encI (0 : Int) T.z22_encI rfl rfl rfl hH3 (by omega) (by omega) (fun u4 lo6 hi7 w5 hH8 => ?_)
  refine ops_y hH8 rfl rfl (yv_assign rfl) (ops_nil (thn_n (seq (seq (region (ops_y hH8 rfl rfl (yv_move rfl) ?_))))))
  refine ops_y hH8 rfl rfl (yv_len T.sl22 rfl (Heap.rdw T.el22_encI hH8 (n := 0) rfl).is) ?_
  refine ops_y hH8 rfl rfl (yv_move rfl) (ops_nil (thn_n (block ?_)))
  refine loop (S := Nat × Value × Nat × Nat) (fun (k, v_3, lo_3, hi_3) => [(11, (.int .i64 (k : Int))), (3, v_3), (2, (.slice none 0 0)), (10, (.int .i64 ((List.replicate (l.length : Int).toNat (0 : Int)).length : Int)))]) (fun (k, v_3, lo_3, hi_3) w1 => Heap [ow lo_3 hi_3 3 1 encI v_3 (S.rightTo k l.length), bx b1 87 [v], base w] w1 ∧ k ≤ l.length) (fun (k, v_3, lo_3, hi_3) => l.length - k) (0, u4, lo6, hi7) (Sub.cons rfl (Sub.cons rfl (Sub.cons rfl (Sub.cons rfl (Sub.nil _))))) ?_ ?_
  · exact ⟨(Heap.recast (n := 0) hH8 rfl (S.rightTo_zero)), by omega⟩
  · rintro ⟨k, v_3, lo_3, hi_3⟩ w9 ⟨hH10, hk⟩
    show Holds _ _ _ _ _ [(11, (.int .i64 (k : Int))), (3, v_3), (2, (.slice none 0 0)), (10, (.int .i64 ((List.replicate (l.length : Int).toNat (0 : Int)).length : Int)))] _ _
    have hrl := S.rightTo_length (k := k) (n := l.length)
    refine seq (region ?_)
    refine ops_y hH10 rfl rfl (yv_lss rfl rfl) ?_
    refine ops_nil (thn_n (seq ?_))
    by_cases hc11 : (k : Int) < ((List.replicate (l.length : Int).toNat (0 : Int)).length : Int)
    · skip
      refine cond_t rfl (decide_eq_true hc11) ?_
      refine skip (thn_n (seq (block (seq (region (ops_y hH10 rfl rfl (yv_move rfl) (ops_y hH10 rfl rfl (yv_assign rfl) (ops_nil (thn_n ?_)))))))))
      refine region (ops_y hH10 rfl rfl (yv_move rfl) (ops_y hH10 rfl rfl (yv_move rfl) (ops_y hH10 rfl rfl (yv_move rfl) ?_)))
      refine ops_y hH10 rfl rfl (yv_index T.sl22 rfl rfl (Heap.rdw T.el22_encI hH10 (n := 0) rfl).is (by omega)) ?_
      refine op_setE (n := 0) (i := (k : Int)) (k := 0) (us := [(.int .i64 (k : Int))]) (z := (k : Int)) T.el22_encI rfl rfl hH10 rfl (by omega) T.sz3 rfl rfl rfl (Nat.le_of_ble_eq_true rfl) (fun w12 hH13 => ?_)
      refine ops_nil (blk_n (thn_n (region ?_)))
      refine ops_y hH13 rfl rfl (yv_add rfl rfl (by omega)) ?_
      refine ops_y hH13 rfl rfl (yv_move rfl) (ops_nil ?_)
      refine lp_n (k + 1, v_3, lo_3, hi_3) (Sub.cons rfl (Sub.cons rfl (Sub.cons rfl (Sub.cons rfl (Sub.nil _))))) ?_ ?_
      · exact ⟨(Heap.recast (n := 0) hH13 rfl (S.rightTo_set (by omega))), by omega⟩
      · first | (dsimp only; omega) | (show _ < _; omega)
    · skip
      refine cond_f rfl (decide_eq_false hc11) ?_
      refine exit (thn_x (lp_x (blk_here (thn_n (seq (region (ops_y hH10 rfl rfl (yv_move rfl) (ops_y hH10 rfl rfl (yv_assign rfl) (ops_nil ?_)))))))))
      refine thn_n (ret ?_)
      have hH14 := (hH10.sub (List.Sublist.cons_cons _ (List.Sublist.cons _ (List.Sublist.refl _))))
      refine fin (hH14.front (n := 1) rfl) (fun w' hf => (res1 rfl (show RV _ _ _ (.tmp 2) _ from rfl))) (fun w' hf => ?_)
      have hk2 : k = l.length := by omega
      subst hk2; rw [← S.rightTo_done]; exact Heap.own hf (n := 0) rfl

end Go.Fip

set_option linter.unusedVariables false
set_option linter.unusedSimpArgs false
set_option linter.unusedSectionVars false
set_option linter.unnecessarySimpa false
namespace Go.Fip
open Go.Proofs Go.RowKit

theorem c83 {v : Value} {l : List Int} {x y : Int} {b g : Nat} {w : World} (h0 : Own 3 1 encI v l w) (hg : v.ownBlock = some g) (k1 : Bx b 89 [v] w) (hne : b ≠ g) (hn : l.length ≤ 1000000) (hx : 0 ≤ x) (hx2 : x < (l.length : Int)) (hy : 0 ≤ y) (hy2 : y < (l.length : Int)) :
    FnM Try.prog 83 [(.pointer (some ⟨b, 0, none⟩)), (.int .i64 x), (.int .i64 y)].toArray w g (fun _ w => Own 3 1 encI v (S.swp l x y) w) := by
  refine fnM_of (args := [(.pointer (some ⟨b, 0, none⟩)), (.int .i64 x), (.int .i64 y)]) Try.func83 rfl (ent Try.func83 (by kernel_rfl) rfl) rfl rfl (ow_row h0 hg) (fun hH => ?_)
  have hsl : (l.set x.toNat (nth l y)).length = l.length := List.length_set
  refine region_drawY (fun w' => Heap [ow g (g + 1) 3 1 encI v l, restL w g, restR w g] w') [29, 31] T.mixed (fun w1 hr2 => ?_)
  have hH3 := hH.redrawn hr2
  refine any_takesT [0, 1, 2, 3, 5, 6, 7, 8, 9, 11, 12, 13, 14, 15, 17, 20, 21, 22, 23, 25] (by kernel_rfl)  _ _ _ (by kernel_rfl) ?_
  refine qs_y rfl rfl (yv_move rfl) ?_
  refine qs_y rfl rfl (yv_nilck rfl) ?_
  refine qs_y rfl rfl (yv_field T.f89_0 rfl) ?_
  refine qs_y rfl rfl (yv_field T.f87_0 rfl) ?_
  refine qs_y rfl rfl (yv_move rfl) (qs_y rfl rfl (yv_move rfl) ?_)
  refine qs_y rfl rfl (yv_nilck rfl) ?_
  refine qs_y rfl rfl (yv_field T.f89_0 rfl) ?_
  refine qs_y rfl rfl (yv_field T.f87_0 rfl) ?_
  refine qs_y rfl rfl (yv_move rfl) (qs_y rfl rfl (yv_move rfl) ?_)
  refine qs_y rfl rfl (yv_nilck rfl) ?_
  refine qs_y rfl rfl (yv_field T.f89_0 rfl) ?_
  refine qs_y rfl rfl (yv_field T.f87_0 rfl) ?_
  refine qs_y rfl rfl (yv_move rfl) (qs_y rfl rfl (yv_move rfl) ?_)
  refine qs_y rfl rfl (yv_nilck rfl) ?_
  refine qs_y rfl rfl (yv_field T.f89_0 rfl) ?_
  refine qs_y rfl rfl (yv_field T.f87_0 rfl) ?_
  refine qs_y rfl rfl (yv_move rfl) (qs_nil ?_)
  refine any_takesY [4, 10, 16, 24] (by kernel_rfl) hH3 _ _ _ (by kernel_rfl) ?_
  refine qs_y rfl rfl (yv_load T.one22 rfl (fun _ hw => bx_cell (Bx.nowM k1 hne hw (n := 1) (m := 2) rfl rfl) rfl)) ?_
  refine qs_y rfl rfl (yv_load T.one22 rfl (fun _ hw => bx_cell (Bx.nowM k1 hne hw (n := 1) (m := 2) rfl rfl) rfl)) ?_
  refine qs_y rfl rfl (yv_load T.one22 rfl (fun _ hw => bx_cell (Bx.nowM k1 hne hw (n := 1) (m := 2) rfl rfl) rfl)) ?_
  refine qs_y rfl rfl (yv_load T.one22 rfl (fun _ hw => bx_cell (Bx.nowM k1 hne hw (n := 1) (m := 2) rfl rfl) rfl)) ?_
  refine qs_nil ?_
  refine any_takesT [18, 26] (by kernel_rfl)  _ _ _ (by kernel_rfl) ?_
  refine qs_y rfl rfl (yv_index T.sl22 rfl rfl (Heap.rdw T.el22_encI hH3 (n := 0) rfl).is (by omega)) ?_
  refine qs_y rfl rfl (yv_index T.sl22 rfl rfl (Heap.rdw T.el22_encI hH3 (n := 0) rfl).is (by omega)) ?_
  refine qs_nil ?_
  refine any_takesY [19, 27] (by kernel_rfl) hH3 _ _ _ (by kernel_rfl) ?_
  refine qs_y rfl rfl (yv_load T.one3 rfl (fun _ hw => Rd.at (Heap.rdw T.el22_encI hw (n := 0) rfl) (i := y) (by omega) (j := 0) rfl)) ?_
  refine qs_y rfl rfl (yv_load T.one3 rfl (fun _ hw => Rd.at (Heap.rdw T.el22_encI hw (n := 0) rfl) (i := x) (by omega) (j := 0) rfl)) ?_
  refine qs_nil ?_
  refine any_takesT [28] (by kernel_rfl)  _ _ _ (by kernel_rfl) ?_
  refine qs_y rfl rfl (yv_index T.sl22 rfl rfl (Heap.rdw T.el22_encI hH3 (n := 0) rfl).is (by omega)) ?_
  refine qs_nil ?_
  refine any_allY [29] (by kernel_rfl) rfl ?_
  refine ⟨⟨_, rfl, ?_⟩, trivial⟩
  · skip
    refine op_setE (n := 0) (i := x) (k := 0) (us := [(.int .i64 (nth l y))]) (z := nth l y) T.el22_encI rfl rfl hH3 rfl (by omega) T.sz3 rfl rfl rfl (Nat.le_of_ble_eq_true rfl) (fun w4 hH5 => ?_)
    refine ops_nil ?_
    refine ⟨(fun h => by cases h), ?_⟩
    refine any_takesT [30] (by kernel_rfl)  _ _ _ (by kernel_rfl) ?_
    refine qs_y rfl rfl (yv_index T.sl22 rfl rfl (Heap.rdw T.el22_encI hH5 (n := 0) rfl).is (by omega)) ?_
    refine qs_nil ?_
    refine any_allY [31] (by kernel_rfl) rfl ?_
    refine ⟨⟨_, rfl, ?_⟩, trivial⟩
    · skip
      refine op_setE (n := 0) (i := y) (k := 0) (us := [(.int .i64 (nth l x))]) (z := nth l x) T.el22_encI rfl rfl hH5 rfl (by omega) T.sz3 rfl rfl rfl (Nat.le_of_ble_eq_true rfl) (fun w6 hH7 => ?_)
      refine ops_nil ?_
      refine ⟨(fun h => by cases h), ?_⟩
      refine any_doneY (by kernel_rfl) ?_
      refine finM_n hH7 (res0 rfl ) (fun w' hf => ?_)
      exact hf.1

end Go.Fip

set_option linter.unusedVariables false
set_option linter.unusedSimpArgs false
set_option linter.unusedSectionVars false
set_option linter.unnecessarySimpa false
namespace Go.Fip
open Go.Proofs Go.RowKit

theorem it104 {b1 b : Nat} {v : Value} {l : List Int} (hj : S.J l) :
    IterF Try.prog 104 [(.pointer (some ⟨b1, 0, none⟩))] (fun w => Bx b1 73 [.pointer (some ⟨b, 0, none⟩)] w ∧ Bx b 89 [v] w ∧ Rd encI 1 v l w) ((S.cyc l)) (fun i u w => Own 3 1 encI u (S.circ l ((((S.mins l).getD i 0 : Nat)) : Int)) w) := by
  refine iterF_of (N := 32) Try.func104 rfl (ent Try.func104 (by kernel_rfl) rfl) rfl rfl rfl (fun yl J Jx hJ hJx hD hY w hJw hH => ?_)
  have hDw := hD _ _ hJw
  have hl10 := hj.2.1
  refine scope (seq (region ?_))
  refine ops_y hH rfl rfl (yv_load T.one73 rfl (fun _ hw => bx_cell ((hDw.1.now hw (n := 0) rfl)) rfl)) ?_
  refine ops_y hH rfl rfl (yv_nilck rfl) ?_
  refine ops_y hH rfl rfl (yv_field T.f89_0 rfl) ?_
  refine ops_y hH rfl rfl (yv_loadA (cs := [v]) T.agg87 rfl rfl (fun _ hw => bx_cells ((hDw.2.1.now hw (n := 0) rfl)) (k := 0) rfl)) ?_
  refine ops_y hH rfl rfl (yv_func rfl rfl) ?_
  refine ops_y hH rfl rfl (yv_assign rfl) (ops_nil (thn_n (seq (label (thn_n (seq (region ?_)))))))
  refine ops_y hH rfl rfl (yv_load T.one73 rfl (fun _ hw => bx_cell ((hDw.1.now hw (n := 0) rfl)) rfl)) ?_
  refine ops_y hH rfl rfl (yv_nilck rfl) ?_
  refine ops_y hH rfl rfl (yv_field T.f89_0 rfl) ?_
  refine ops_y hH rfl rfl (yv_field T.f87_0 rfl) ?_
  refine ops_y hH rfl rfl (yv_load T.one22 rfl (fun _ hw => bx_cell ((hDw.2.1.now hw (n := 0) rfl)) rfl)) ?_
  refine ops_y hH rfl rfl (yv_len T.sl22 rfl ((hDw.2.2.now hH (n := 0) rfl)).is) ?_
  refine ops_y hH rfl rfl (yv_move rfl) (ops_nil (thn_n (block ?_)))
  refine loop (S := Nat × World) (fun (k, wj) => [(17, (.int .i64 (k : Int))), (0, (.func (.yield yl) #[] #[])), (3, (.func (.func 105) #[(.agg #[v])] #[])), (16, (.int .i64 (l.length : Int)))]) (fun (k, wj) w1 => Heap [base wj] w1 ∧ k ≤ l.length ∧ J (S.minsTo l k) wj) (fun (k, wj) => l.length - k) (0, w) (Sub.cons rfl (Sub.cons rfl (Sub.cons rfl (Sub.cons rfl (Sub.nil _))))) ?_ ?_
  · exact ⟨hH, by omega, hJw⟩
  · rintro ⟨k, wj⟩ w1 ⟨hH2, hk, hJw⟩
    show Holds _ _ _ _ _ [(17, (.int .i64 (k : Int))), (0, (.func (.yield yl) #[] #[])), (3, (.func (.func 105) #[(.agg #[v])] #[])), (16, (.int .i64 (l.length : Int)))] _ _
    have hDw := hD _ _ hJw
    refine seq (region ?_)
    refine ops_y hH2 rfl rfl (yv_lss rfl rfl) ?_
    refine ops_nil (thn_n (seq ?_))
    by_cases hc3 : (k : Int) < (l.length : Int)
    · skip
      refine cond_t rfl (decide_eq_true hc3) ?_
      refine skip (thn_n (seq (block (seq (region (ops_y hH2 rfl rfl (yv_move rfl) (ops_y hH2 rfl rfl (yv_assign rfl) (ops_nil (thn_n ?_)))))))))
      refine seq ?_
      have hkl : (k : Int) < (l.length : Int) := by omega
      refine region (ops_y hH2 rfl rfl (yv_move rfl) (ops_y hH2 rfl rfl (yv_move rfl) ?_))
      refine op_fn rfl rfl rfl hH2 (c105 ((hDw.2.2.now hH2 (n := 0) rfl)) hj (by omega) (by omega)) (fun u6 w4 lo7 hi8 hH5 hv9 => ?_)
      have hH10 := Heap.toOw hH5 (n := 0) rfl
      refine ops_y hH10 rfl rfl (yv_assign rfl) (ops_nil (thn_n (seq (seq ?_))))
      have hpp := S.per_pos (l := l) (a := (k : Int))
      have hcl := S.circ_length (l := l) (a := (k : Int))
      have hpl := (hj.per_at (a := (k : Int)) (by omega) (by omega)).2
      refine region (ops_y hH10 rfl rfl (yv_move rfl) ?_)
      refine op_fnV rfl rfl rfl hH10 (c106 (Heap.rdw T.el22_encI hH10 (n := 0) rfl) (by omega) (by omega)) (fun w11 hH12 => ?_)
      refine ops_y hH12 rfl rfl (yv_move rfl) ?_
      refine ops_y hH12 rfl rfl (yv_lss rfl rfl) ?_
      refine ops_nil (thn_n ?_)
      by_cases hc13 : (S.minTo (S.circ l (k : Int)) ((S.circ l (k : Int)).length - 1)) < (k : Int)
      · skip
        have hmin2 : ¬ S.isMin l (k : Int) = true := S.J.min_circ.1 ‹_›
        refine cond_t rfl (decide_eq_true hc13) ?_
        refine exit (thn_x (blk_here (thn_n (region ?_))))
        refine ops_y hH12 rfl rfl (yv_add rfl rfl (by omega)) ?_
        refine ops_y hH12 rfl rfl (yv_move rfl) (ops_nil ?_)
        have hH14 := (hH12.sub (List.Sublist.cons _ (List.Sublist.refl _)))
        refine lp_n (k + 1, wj) (Sub.cons rfl (Sub.cons rfl (Sub.cons rfl (Sub.cons rfl (Sub.nil _))))) ?_ ?_
        · exact ⟨hH14, by omega, by rw [S.minsTo_f hmin2]; exact hJw⟩
        · first | (dsimp only; omega) | (show _ < _; omega)
      · skip
        have hmin : S.isMin l (k : Int) = true := Classical.not_not.1 fun h => absurd (S.J.min_circ.2 h) ‹_›
        refine cond_f rfl (decide_eq_false hc13) ?_
        refine skip (thn_n (seq (region (ops_y hH12 rfl rfl (yv_move rfl) (ops_y hH12 rfl rfl (yv_move rfl) ?_)))))
        refine op_yield rfl rfl rfl (hY _ _ _ _ (S.minsTo_lt (by omega) hmin) hJw (hH12.get (n := 1) rfl) (Heap.widen hH12 (n := 1) (m := 0) rfl rfl (by decide) (fun w' h => (by rw [S.mins_at (by omega) hmin]; exact h.1)))) (fun w15 hA16 => ?_) (fun w15 hA16 => ?_)
        · skip
          have hH17 := Heap.start w15
          have hJw := hA16
          have hDw := hD _ _ hJw
          refine ops_y hH17 rfl rfl (yv_not rfl) ?_
          refine ops_nil (thn_n ?_)
          refine cond_f rfl rfl ?_
          refine skip (blk_n (thn_n (region ?_)))
          refine ops_y hH17 rfl rfl (yv_add rfl rfl (by omega)) ?_
          refine ops_y hH17 rfl rfl (yv_move rfl) (ops_nil ?_)
          refine lp_n (k + 1, w15) (Sub.cons rfl (Sub.cons rfl (Sub.cons rfl (Sub.cons rfl (Sub.nil _))))) ?_ ?_
          · exact ⟨hH17, by omega, by rw [S.minsTo_t hmin]; exact hJw⟩
          · first | (dsimp only; omega) | (show _ < _; omega)
        · skip
          have hH17 := Heap.start w15
          have hJxw := hA16
          refine ops_y hH17 rfl rfl (yv_not rfl) ?_
          refine ops_nil (thn_n ?_)
          refine cond_t rfl rfl ?_
          refine ret (blk_r (thn_r (lp_r (blk_r (scp_r ?_)))))
          exact ⟨rfl, .inr (hJx _ _ hJxw (hH17.get (n := 0) rfl))⟩
    · skip
      refine cond_f rfl (decide_eq_false hc3) ?_
      refine exit (thn_x (lp_x (blk_here (scp_n ?_))))
      have hk2 : k = l.length := by omega
      subst hk2
      exact ⟨rfl, .inl (hJ _ _ _ hJw (hH2.get (n := 0) rfl))⟩

end Go.Fip

set_option linter.unusedVariables false
set_option linter.unusedSimpArgs false
set_option linter.unusedSectionVars false
set_option linter.unnecessarySimpa false
namespace Go.Fip
open Go.Proofs Go.RowKit

theorem c74 {b : Nat} {w : World}  :
    Fn Try.prog 74 [(.pointer (some ⟨b, 0, none⟩))].toArray w (fun u w => ∃ b1, u = .func (.func 104) #[] #[.pointer (some ⟨b1, 0, none⟩)] ∧ Bx b1 73 [.pointer (some ⟨b, 0, none⟩)] w) := by
  refine fn_of' (args := [(.pointer (some ⟨b, 0, none⟩))]) Try.func74 rfl (ent Try.func74 (by kernel_rfl) rfl) rfl rfl (fun hH => ?_)
  refine seq (region ?_)
  refine op_box (us := [(.pointer (some ⟨b, 0, none⟩))]) rfl rfl rfl hH (fun b1 w2 hH3 => ?_)
  refine ops_y hH3 rfl rfl (yv_assign rfl) (ops_nil (thn_n (seq (region ?_))))
  refine ops_y hH3 rfl rfl (yv_func rfl rfl) ?_
  refine ops_y hH3 rfl rfl (yv_assign rfl) (ops_nil (thn_n (ret ?_)))
  refine fin (hH3.front (n := 1) rfl) (fun w' hf => (res1 rfl (show RV _ _ _ (.tmp 2) _ from rfl))) (fun w' hf => ?_)
  exact ⟨_, rfl, Heap.bxw hf (n := 0) rfl⟩

theorem Heap.cap1 {f b t lo hi n : Nat} {cs : List Value} {H : List Item} {w : World} (hH : Heap H w)
    (hn : H[n]? = some ⟨lo, hi, fun w => ∃ b1 : Nat, (Value.func (.func f) #[] #[.pointer (some ⟨b, 0, none⟩)] : Value) = .func (.func f) #[] #[.pointer (some ⟨b1, 0, none⟩)] ∧ Bx b1 t cs w⟩) :
    Heap (H.set n ⟨lo, hi, Bx b t cs⟩) w := hH.weaken hn (φ := Bx b t cs) (fun w' h => by
  obtain ⟨b1, e, h⟩ := h
  cases e
  exact h)

theorem c89 {b : Nat} {v : Value} {l : List Int} {w : World} (hb : Bx b 89 [v] w) (h0 : Rd encI 1 v l w) (hj : S.J l)  :
    Fn Try.prog 89 [(.pointer (some ⟨b, 0, none⟩))].toArray w (fun u _ => u = .int .i64 (S.again l)) := by
  refine fn_of' (args := [(.pointer (some ⟨b, 0, none⟩))]) Try.func89 rfl (ent Try.func89 (by kernel_rfl) rfl) rfl rfl (fun hH => ?_)
  have hl10 := hj.2.1
  refine seq (region (ops_y hH rfl rfl (yv_assign rfl) (ops_nil (thn_n (seq (region ?_))))))
  refine op_alloc (z := (.int .i64 0)) (us := [(.int .i64 0)]) (fun _ => by kernel_rfl) rfl rfl hH (fun b1 w2 hH3 => ?_)
  refine op_store (n := 0) (j := 0) (us := [(.int .i64 1)]) rfl rfl hH3 rfl T.sz2 rfl rfl rfl (by rfl) (fun w4 hH5 => ?_)
  refine ops_nil (thn_n (seq (seq (region (ops_y hH5 rfl rfl (yv_move rfl) ?_)))))
  refine op_fn rfl rfl rfl hH5 (c74) (fun u8 w6 lo9 hi10 hH7 hv11 => ?_)
  obtain ⟨cb12, hu, -⟩ := hv11
  subst hu
  have hH13 := Heap.cap1 hH7 (n := 0) rfl
  refine ops_nil (thn_n (block ?_))
  refine rangeFuncF (n := (S.cyc l)) rfl (it104 (b1 := cb12) (b := b) (v := v) hj) rfl hH13 (fun i H => H = [⟨lo9, hi10, Bx cb12 73 [(.pointer (some ⟨b, 0, none⟩))]⟩, bx b1 2 [(.int .i64 (S.agn l i : Int))], base w] ∧ True) (fun c H => False) ⟨rfl, trivial⟩ (fun i H w hI hw => ?_) (fun l14 D15 i16 x17 lo21 hi22 H w19 rc hx18 hI hH20 => ?_) (fun D15 H w19 hI hH20 => ?_) (fun D15 c H w19 hI hH20 => ?_)
  · skip
    obtain ⟨rfl, _⟩ := hI
    exact ⟨hw.get (n := 0) rfl, (hb.now hw (n := 2) rfl), (h0.now hw (n := 2) rfl)⟩
  · skip
    obtain ⟨rfl, _⟩ := hI
    have hH23 := Heap.toOw hH20 (n := 2) rfl
    refine region (ops_y hH23 rfl rfl (yv_assign rfl) (ops_nil ?_))
    refine ⟨_, hH23, fun w24 hH25 => ?_⟩
    refine block (seq ?_)
    have hcl := S.circ_length (l := l) (a := (((S.mins l).getD i16 0 : Nat) : Int))
    have hle0 := hj.agn_le10 (i := i16) (by omega)
    have hll := hj.len_le (i := i16) (by omega)
    have hle1 := hj.agn_le10 (i := i16 + 1) (by omega)
    have hap := S.agn_pos (l := l) i16
    refine region ?_
    refine ops_y hH25 rfl rfl (yv_load T.one2 rfl (fun _ hw => Heap.cellw hw (n := 4) rfl rfl)) ?_
    refine ops_y hH25 rfl rfl (yv_move rfl) ?_
    refine ops_y hH25 rfl rfl (yv_len T.sl22 rfl (Heap.rdw T.el22_encI hH25 (n := 2) rfl).is) ?_
    refine ops_y hH25 rfl rfl (yv_assign rfl) (ops_y hH25 rfl rfl (yv_assign rfl) (ops_nil (thn_n (seq (block ?_)))))
    refine loop (S := Nat × Nat) (fun (x, y) => [(5, (.int .i64 (x : Int))), (6, (.int .i64 (y : Int))), (2, (.int .i64 0)), (3, (.pointer (some ⟨b1, 0, none⟩))), (4, x17)]) (fun (x, y) w1 => Heap [recItem l14 { rc with state := .busy }, markItem D15, ow lo21 hi22 3 1 encI x17 (S.circ l (((S.mins l).getD i16 0 : Nat) : Int)), ⟨lo9, hi10, Bx cb12 73 [(.pointer (some ⟨b, 0, none⟩))]⟩, bx b1 2 [(.int .i64 (S.agn l i16 : Int))], base w] w1 ∧ Nat.gcd x y = Nat.gcd (S.agn l i16) (S.len l i16) ∧ x ≤ 10000000000 ∧ y ≤ 10000000000) (fun (x, y) => y) ((S.agn l i16), (S.len l i16)) (Sub.cons rfl (Sub.cons (congrArg (fun z : Nat => some (Value.int .i64 (z : Int))) S.circ_length) (Sub.cons rfl (Sub.cons rfl (Sub.cons rfl (Sub.nil _)))))) ?_ ?_
    · exact ⟨hH25, rfl, hle0, (by omega)⟩
    · rintro ⟨x, y⟩ w26 ⟨hH27, hgcd, hxb, hyb⟩
      show Holds _ _ _ _ _ [(5, (.int .i64 (x : Int))), (6, (.int .i64 (y : Int))), (2, (.int .i64 0)), (3, (.pointer (some ⟨b1, 0, none⟩))), (4, x17)] _ _
      refine seq (seq (region (ops_y hH27 rfl rfl (yv_move rfl) ?_)))
      refine ops_y hH27 rfl rfl (yv_gtr rfl rfl) ?_
      refine ops_nil (thn_n ?_)
      by_cases hc28 : 0 < (y : Int)
      · skip
        refine cond_t rfl (decide_eq_true hc28) ?_
        refine skip (thn_n (block ?_))
        refine region_draw (fun w' => Heap [recItem l14 { rc with state := .busy }, markItem D15, ow lo21 hi22 3 1 encI x17 (S.circ l (((S.mins l).getD i16 0 : Nat) : Int)), ⟨lo9, hi10, Bx cb12 73 [(.pointer (some ⟨b, 0, none⟩))]⟩, bx b1 2 [(.int .i64 (S.agn l i16 : Int))], base w] w') T.mixed (fun w29 hr30 => ?_)
        have hH31 := hH27.redrawn hr30
        refine any_takes [0, 1, 2, 3, 4, 5] (by kernel_rfl) hH31 _ _ _ (by kernel_rfl) ?_
        refine qs_y rfl rfl (yv_move rfl) (qs_y rfl rfl (yv_move rfl) (qs_y rfl rfl (yv_move rfl) ?_))
        refine qs_y rfl rfl (yv_rem rfl rfl (by omega) (by omega)) ?_
        refine qs_y rfl rfl (yv_assign rfl) (qs_y rfl rfl (yv_assign rfl) (qs_nil ?_))
        refine any_done (by kernel_rfl) ?_
        refine blk_n ?_
        refine lp_n (y, (x % y)) (Sub.cons rfl (Sub.cons rfl (Sub.cons rfl (Sub.cons rfl (Sub.cons rfl (Sub.nil _)))))) ?_ ?_
        · exact ⟨hH31, S.gcd_step (by omega) hgcd, hyb, Nat.le_trans (Nat.mod_le _ _) hxb⟩
        · exact Nat.mod_lt _ (by omega)
      · skip
        refine cond_f rfl (decide_eq_false hc28) ?_
        refine exit (thn_x (lp_x (blk_here (thn_n ?_))))
        have hy0 : y = 0 := by omega
        subst hy0
        have hxp := S.gcd_pos hgcd hap
        have hlc := S.gcd_done hgcd
        have hdl := Int.ediv_nonneg (a := (S.agn l i16 : Int)) (b := (x : Int)) (by omega) (by omega)
        have hlc2 : (S.agn l i16 : Int) / (x : Int) * ((S.circ l (((S.mins l).getD i16 0 : Nat) : Int)).length : Int) = ((S.agn l (i16 + 1) : Nat) : Int) := by rw [S.circ_length]; exact hlc
        refine region ?_
        refine ops_y hH27 rfl rfl (yv_load T.one2 rfl (fun _ hw => Heap.cellw hw (n := 4) rfl rfl)) ?_
        refine ops_y hH27 rfl rfl (yv_move rfl) ?_
        refine ops_y hH27 rfl rfl (yv_quo rfl rfl (by omega) (by omega) (by omega)) ?_
        refine ops_y hH27 rfl rfl (yv_move rfl) ?_
        refine ops_y hH27 rfl rfl (yv_len T.sl22 rfl (Heap.rdw T.el22_encI hH27 (n := 2) rfl).is) ?_
        refine ops_y hH27 rfl rfl (yv_mul rfl rfl (by omega)) ?_
        refine op_store (n := 4) (j := 0) (us := [(.int .i64 (((S.agn l i16 : Int) / (x : Int)) * ((S.circ l (((S.mins l).getD i16 0 : Nat) : Int)).length : Int)))]) rfl rfl hH27 rfl T.sz2 rfl rfl rfl (by rfl) (fun w32 hH33 => ?_)
        refine ops_nil (blk_n ?_)
        have hH34 := (hH33.sub (List.Sublist.cons_cons _ (List.Sublist.cons_cons _ (List.Sublist.cons _ (List.Sublist.refl _)))))
        exact ⟨_, ⟨_, ⟨rfl, trivial⟩, rfl⟩, (Heap.recastBx (n := 3) hH34 rfl (by rw [S.circ_length]; exact congrArg (fun z => [Value.int .i64 z]) hlc))⟩
  · skip
    obtain ⟨rfl, _⟩ := hI
    have hH35 := hH20.perm (List.perm_append_comm (l₁ := [_]))
    refine blk_n (thn_n (seq (region ?_)))
    refine ops_y hH35 rfl rfl (yv_load T.one2 rfl (fun _ hw => Heap.cellw hw (n := 1) rfl rfl)) ?_
    refine ops_y hH35 rfl rfl (yv_assign rfl) (ops_nil (thn_n (ret ?_)))
    have hH36 := (hH35.sub (List.Sublist.cons _ (List.Sublist.cons _ (List.Sublist.refl _))))
    refine fin_m (H := []) [D15] hH36 (fun w' hf => (res1 rfl (show RV _ _ _ (.tmp 2) _ from rfl))) (fun w' hf => ?_)
    rfl
  · skip
    exact hI.elim

end Go.Fip

set_option linter.unusedVariables false
set_option linter.unusedSimpArgs false
set_option linter.unusedSectionVars false
set_option linter.unnecessarySimpa false
namespace Go.Fip
open Go.Proofs Go.RowKit

theorem c90 {v : Value} {l : List Int} {w : World} (h0 : Rd encI 1 v l w) (hj : S.J l)  :
    Fn Try.prog 90 [v].toArray w (fun u _ => u = .int .i64 (S.again l)) := by
  refine fn_of' (args := [v]) Try.func90 rfl (ent Try.func90 (by kernel_rfl) rfl) rfl rfl (fun hH => ?_)
  have hl10 := hj.2.1
  have hap := S.agn_pos (l := l) (S.cyc l)
  have hab := hj.agn_le10 (Nat.le_refl _)
  refine seq (region (ops_y hH rfl rfl (yv_assign rfl) (ops_nil (thn_n (seq (region (ops_y hH rfl rfl (yv_move rfl) ?_)))))))
  refine op_fn rfl rfl rfl hH (c60 (h0.now hH (n := 0) rfl) (by omega)) (fun u3 w1 lo4 hi5 hH2 hv6 => ?_)
  have hH7 := Heap.toOw hH2 (n := 0) rfl
  refine ops_y hH7 rfl rfl (yv_assign rfl) (ops_y hH7 rfl rfl (yv_assign rfl) (ops_nil (thn_n (seq (block ?_)))))
  refine loop (S := Nat × Value × Nat × Nat) (fun (k, v_4, lo_4, hi_4) => [(3, (.int .i64 (k : Int))), (4, v_4), (0, v), (2, (.int .i64 0))]) (fun (k, v_4, lo_4, hi_4) w1 => Heap [ow lo_4 hi_4 3 1 encI v_4 (S.pw l k), base w] w1 ∧ 1 ≤ k ∧ k ≤ S.agn l (S.cyc l)) (fun (k, v_4, lo_4, hi_4) => S.agn l (S.cyc l) - k) (1, u3, lo4, hi5) (Sub.cons rfl (Sub.cons rfl (Sub.cons rfl (Sub.cons rfl (Sub.nil _))))) ?_ ?_
  · exact ⟨(Heap.recast (n := 0) hH7 rfl (S.pw_one.symm)), by omega, by omega⟩
  · rintro ⟨k, v_4, lo_4, hi_4⟩ w8 ⟨hH9, hk1, hk⟩
    show Holds _ _ _ _ _ [(3, (.int .i64 (k : Int))), (4, v_4), (0, v), (2, (.int .i64 0))] _ _
    have hpl := S.pw_length (l := l) (k := k)
    have hpi := hj.pw_in (k := k)
    have hrl : (S.right ((l.length : Int)).toNat).length = l.length := S.right_length _
    refine seq (seq (region (ops_y hH9 rfl rfl (yv_move rfl) (ops_y hH9 rfl rfl (yv_move rfl) ?_))))
    refine ops_y hH9 rfl rfl (yv_len T.sl22 rfl (h0.now hH9 (n := 1) rfl).is) ?_
    refine op_fn rfl rfl rfl hH9 (c58 (by omega) (by omega)) (fun u12 w10 lo13 hi14 hH11 hv15 => ?_)
    have hH16 := Heap.toOw hH11 (n := 0) rfl
    refine op_fnV rfl rfl rfl hH16 (c88 (Heap.rdw T.el22_encI hH16 (n := 1) rfl) (Heap.rdw T.el22_encI hH16 (n := 0) rfl) (by omega) (by omega)) (fun w17 hH18 => ?_)
    refine ops_y hH18 rfl rfl (yv_not rfl) ?_
    refine ops_nil (thn_n ?_)
    by_cases hc19 : (S.pw l k) = (S.right ((l.length : Int)).toNat)
    · skip
      have heq : S.pw l k = S.right l.length := by simpa using (not_decide_n hc19)
      refine cond_f rfl (not_decide_n hc19) ?_
      refine exit (thn_x (lp_x (blk_here (thn_n (seq (region (ops_y hH18 rfl rfl (yv_move rfl) (ops_y hH18 rfl rfl (yv_assign rfl) (ops_nil ?_)))))))))
      refine thn_n (ret ?_)
      have hH20 := (hH18.sub (List.Sublist.cons _ (List.Sublist.cons _ (List.Sublist.refl _))))
      refine fin hH20 (fun w' hf => (res1 rfl (show RV _ _ _ (.tmp 2) _ from rfl))) (fun w' hf => ?_)
      have hk2 := hj.again_done hk1 hk heq; subst hk2; rfl
    · skip
      have hne : ¬ S.pw l k = S.right l.length := ‹_›
      refine cond_t rfl (not_decide_t hc19) ?_
      refine skip (thn_n (block (seq (region (ops_y hH18 rfl rfl (yv_move rfl) (ops_y hH18 rfl rfl (yv_move rfl) ?_))))))
      refine op_fn rfl rfl rfl hH18 (c63 (Heap.rdw T.el22_encI hH18 (n := 1) rfl) (h0.now hH18 (n := 2) rfl) (by omega) hpi) (fun u23 w21 lo24 hi25 hH22 hv26 => ?_)
      have hH27 := Heap.toOw hH22 (n := 0) rfl
      refine ops_y hH27 rfl rfl (yv_assign rfl) (ops_nil (thn_n (region (ops_y hH27 rfl rfl (yv_move rfl) ?_))))
      refine ops_y hH27 rfl rfl (yv_add rfl rfl (by omega)) ?_
      refine ops_y hH27 rfl rfl (yv_assign rfl) (ops_nil (blk_n ?_))
      have hH28 := (hH27.sub (List.Sublist.cons_cons _ (List.Sublist.cons _ (List.Sublist.cons _ (List.Sublist.refl _)))))
      refine lp_n (k + 1, u23, lo24, hi25) (Sub.cons rfl (Sub.cons rfl (Sub.cons rfl (Sub.cons rfl (Sub.nil _))))) ?_ ?_
      · exact ⟨(Heap.recast (n := 0) hH28 rfl (S.pw_behind)), by omega, hj.again_more hk hne⟩
      · (have hq := hj.again_more hk hne; dsimp only; omega)

end Go.Fip

set_option linter.unusedVariables false
set_option linter.unusedSimpArgs false
set_option linter.unusedSectionVars false
set_option linter.unnecessarySimpa false
namespace Go.Fip
open Go.Proofs Go.RowKit

theorem tup2 {p : Int × Int} {a b : Int} {k k2 : IntKind} (h : p = (a, b)) : Value.tuple #[.int k a, .int k2 b] = .tuple #[.int k p.1, .int k2 p.2] := by subst h; rfl

theorem c34 {v : Value} {l : List Int} {w : World} (h0 : Rd encI 1 v l w) (hn : l.length ≤ 1000000)  :
    Fn Try.prog 34 [v].toArray w (fun u _ => u = .tuple #[.int .i64 (S.againR l).1, .int .i64 (S.againR l).2]) := by
  refine fn_of' (args := [v]) Try.func34 rfl (ent Try.func34 (by kernel_rfl) rfl) rfl rfl (fun hH => ?_)
  refine seq (region (ops_y hH rfl rfl (yv_assign rfl) (ops_y hH rfl rfl (yv_assign rfl) (ops_nil (thn_n (seq ?_))))))
  by_cases hc1 : S.check l 0 = 0
  · skip
    have hc0 : S.check l 0 = 0 := ‹_›
    have hj : S.J l := S.check_iff.1 hc0
    have hl1 := hj.1
    have hl10 := hj.2.1
    refine region (ops_y hH rfl rfl (yv_move rfl) ?_)
    refine op_fn rfl rfl rfl hH (c72 (h0.now hH (n := 0) rfl) (by omega) hj) (fun u4 w2 lo5 hi6 hH3 hv7 => ?_)
    obtain ⟨b8, r9, hu, hb10⟩ := hv7
    subst hu
    obtain ⟨g11, hH12⟩ := Heap.toBench hH3 (n := 0) rfl (fun w' h => by obtain ⟨b1, v1, e, h⟩ := h; cases e; exact ⟨v1, h⟩) hb10 (by omega)
    refine ops_y hH12 rfl rfl (yv_move rfl) (ops_y hH12 rfl rfl (yv_extract rfl rfl) (ops_y hH12 rfl rfl (yv_extract rfl rfl) (ops_y hH12 rfl rfl (yv_assign rfl) (ops_y hH12 rfl rfl (yv_assign rfl) (ops_nil (thn_n (seq (seq (region ?_)))))))))
    refine ops_y hH12 rfl rfl (yv_move rfl) ?_
    refine ops_y hH12 rfl rfl (yv_neq rfl rfl) ?_
    refine ops_nil (thn_n ?_)
    refine cond_f rfl rfl ?_
    refine skip (thn_n (seq (region (ops_y hH12 rfl rfl (yv_move rfl) ?_))))
    refine op_fnV rfl rfl rfl hH12 (c89 (Heap.bxw hH12 (n := 1) rfl) (Heap.rdw T.el22_encI hH12 (n := 0) rfl) hj) (fun w13 hH14 => ?_)
    refine ops_y hH14 rfl rfl (yv_assign rfl) (ops_y hH14 rfl rfl (yv_assign rfl) (ops_nil (thn_n (ret ?_))))
    have hH15 := (hH14.sub (List.Sublist.cons _ (List.Sublist.cons _ (List.Sublist.refl _))))
    refine fin hH15 (fun w' hf => (res2 rfl (show RV _ _ _ (.tmp 2) _ from rfl) (show RV _ _ _ (.tmp 3) _ from rfl))) (fun w' hf => ?_)
    first | exact tup2 (S.ag1 hcn) | exact tup2 (S.ag2 hc0)
  · skip
    have hcn : ¬ S.check l 0 = 0 := ‹_›
    refine region (ops_y hH rfl rfl (yv_move rfl) ?_)
    refine op_fnV rfl rfl rfl hH (c72n (h0.now hH (n := 0) rfl) (by omega) hcn) (fun w16 hH17 => ?_)
    refine ops_y hH17 rfl rfl (yv_move rfl) (ops_y hH17 rfl rfl (yv_extract rfl rfl) (ops_y hH17 rfl rfl (yv_extract rfl rfl) (ops_y hH17 rfl rfl (yv_assign rfl) (ops_y hH17 rfl rfl (yv_assign rfl) (ops_nil (thn_n (seq (seq (region ?_)))))))))
    refine ops_y hH17 rfl rfl (yv_move rfl) ?_
    refine ops_y hH17 rfl rfl (yv_neq rfl rfl) ?_
    refine ops_nil (thn_n ?_)
    have hc18 : ¬ ((S.check l 0) = 0) := hcn
    refine cond_t rfl (not_decide_t hc18) ?_
    refine seq (region (ops_y hH17 rfl rfl (yv_move rfl) (ops_y hH17 rfl rfl (yv_assign rfl) (ops_y hH17 rfl rfl (yv_assign rfl) (ops_nil (thn_n (ret (thn_r ?_))))))))
    refine fin hH17 (fun w' hf => (res2 rfl (show RV _ _ _ (.tmp 2) _ from rfl) (show RV _ _ _ (.tmp 3) _ from rfl))) (fun w' hf => ?_)
    first | exact tup2 (S.ag1 hcn) | exact tup2 (S.ag2 hc0)

theorem c35 {v : Value} {l : List Int} {w : World} (h0 : Rd encI 1 v l w) (hn : l.length ≤ 1000000)  :
    Fn Try.prog 35 [v].toArray w (fun u _ => u = .tuple #[.int .i64 (S.againR l).1, .int .i64 (S.againR l).2]) := by
  refine fn_of' (args := [v]) Try.func35 rfl (ent Try.func35 (by kernel_rfl) rfl) rfl rfl (fun hH => ?_)
  refine seq (region (ops_y hH rfl rfl (yv_assign rfl) (ops_y hH rfl rfl (yv_assign rfl) (ops_nil (thn_n (seq (seq ?_)))))))
  by_cases hc1 : S.check l 0 = 0
  · skip
    have hc0 : S.check l 0 = 0 := ‹_›
    have hj : S.J l := S.check_iff.1 hc0
    have hl1 := hj.1
    have hl10 := hj.2.1
    refine region (ops_y hH rfl rfl (yv_move rfl) ?_)
    refine op_fnV rfl rfl rfl hH (c24 (h0.now hH (n := 0) rfl) (by omega)) (fun w2 hH3 => ?_)
    refine ops_y hH3 rfl rfl (yv_neq rfl rfl) ?_
    refine ops_nil (thn_n ?_)
    have hc4 : ¬ (¬ ((S.check l 0) = 0)) := fun h => h hc0
    refine cond_f rfl (not_decide_f hc4) ?_
    refine skip (thn_n (seq (region (ops_y hH3 rfl rfl (yv_move rfl) ?_))))
    refine op_fnV rfl rfl rfl hH3 (c90 (h0.now hH3 (n := 0) rfl) hj) (fun w5 hH6 => ?_)
    refine ops_y hH6 rfl rfl (yv_assign rfl) (ops_y hH6 rfl rfl (yv_assign rfl) (ops_nil (thn_n (ret ?_))))
    refine fin hH6 (fun w' hf => (res2 rfl (show RV _ _ _ (.tmp 2) _ from rfl) (show RV _ _ _ (.tmp 3) _ from rfl))) (fun w' hf => ?_)
    first | exact tup2 (S.ag1 hcn) | exact tup2 (S.ag2 hc0)
  · skip
    have hcn : ¬ S.check l 0 = 0 := ‹_›
    refine region (ops_y hH rfl rfl (yv_move rfl) ?_)
    refine op_fnV rfl rfl rfl hH (c24 (h0.now hH (n := 0) rfl) (by omega)) (fun w7 hH8 => ?_)
    refine ops_y hH8 rfl rfl (yv_neq rfl rfl) ?_
    refine ops_nil (thn_n ?_)
    have hc9 : ¬ ((S.check l 0) = 0) := hcn
    refine cond_t rfl (not_decide_t hc9) ?_
    refine seq (region (ops_y hH8 rfl rfl (yv_move rfl) ?_))
    refine op_fnV rfl rfl rfl hH8 (c24 (h0.now hH8 (n := 0) rfl) (by omega)) (fun w10 hH11 => ?_)
    refine ops_y hH11 rfl rfl (yv_assign rfl) (ops_y hH11 rfl rfl (yv_assign rfl) (ops_nil (thn_n (ret (thn_r ?_)))))
    refine fin hH11 (fun w' hf => (res2 rfl (show RV _ _ _ (.tmp 2) _ from rfl) (show RV _ _ _ (.tmp 3) _ from rfl))) (fun w' hf => ?_)
    first | exact tup2 (S.ag1 hcn) | exact tup2 (S.ag2 hc0)

end Go.Fip

set_option linter.unusedVariables false
set_option linter.unusedSimpArgs false
set_option linter.unusedSectionVars false
set_option linter.unnecessarySimpa false
namespace Go.Fip
open Go.Proofs Go.RowKit

theorem c92 {v u : Value} {l m : List Int} {w : World} (h0 : Rd encI 1 v l w) (h1 : Rd encI 1 u m w) (hn : l.length ≤ 1000000) (hn2 : m.length ≤ 1000000)  :
    Fn Try.prog 92 [v, u].toArray w (fun u _ => u = .int .i64 (S.two l m)) := by
  refine fn_of' (args := [v, u]) Try.func92 rfl (ent Try.func92 (by kernel_rfl) rfl) rfl rfl (fun hH => ?_)
  refine seq (region (ops_y hH rfl rfl (yv_assign rfl) (ops_nil (thn_n (seq (seq (region (ops_y hH rfl rfl (yv_move rfl) ?_))))))))
  refine op_fnV rfl rfl rfl hH (c24 (h0.now hH (n := 0) rfl) (by omega)) (fun w1 hH2 => ?_)
  refine ops_y hH2 rfl rfl (yv_neq rfl rfl) ?_
  refine ops_nil (thn_n ?_)
  by_cases hc3 : (S.check l 0) = 0
  · skip
    refine cond_f rfl (not_decide_n hc3) ?_
    refine skip (thn_n (seq (seq (region (ops_y hH2 rfl rfl (yv_move rfl) ?_)))))
    refine op_fnV rfl rfl rfl hH2 (c24 (h1.now hH2 (n := 0) rfl) (by omega)) (fun w4 hH5 => ?_)
    refine ops_y hH5 rfl rfl (yv_neq rfl rfl) ?_
    refine ops_nil (thn_n ?_)
    by_cases hc6 : (S.check m 0) = 0
    · skip
      refine cond_f rfl (not_decide_n hc6) ?_
      refine skip (thn_n (seq (seq (region (ops_y hH5 rfl rfl (yv_move rfl) ?_)))))
      refine ops_y hH5 rfl rfl (yv_len T.sl22 rfl (h0.now hH5 (n := 0) rfl).is) ?_
      refine ops_y hH5 rfl rfl (yv_move rfl) ?_
      refine ops_y hH5 rfl rfl (yv_len T.sl22 rfl (h1.now hH5 (n := 0) rfl).is) ?_
      refine ops_y hH5 rfl rfl (yv_neq rfl rfl) ?_
      refine ops_nil (thn_n ?_)
      by_cases hc7 : (l.length : Int) = (m.length : Int)
      · skip
        refine cond_f rfl (not_decide_n hc7) ?_
        refine skip (thn_n (seq (region (ops_y hH5 rfl rfl (yv_assign rfl) (ops_nil (thn_n (ret ?_)))))))
        refine fin hH5 (fun w' hf => (res1 rfl (show RV _ _ _ (.tmp 4) _ from rfl))) (fun w' hf => ?_)
        first | exact congrArg (Value.int .i64) (S.tw1 (by omega)).symm | exact congrArg (Value.int .i64) (S.tw2 (by omega) (by omega)).symm | exact congrArg (Value.int .i64) (S.tw3 (by omega) (by omega) (by omega)).symm | exact congrArg (Value.int .i64) (S.two_iff.2 ⟨by omega, by omega, by omega⟩).symm
      · skip
        refine cond_t rfl (not_decide_t hc7) ?_
        refine seq (region (ops_y hH5 rfl rfl (yv_assign rfl) (ops_nil (thn_n (ret (thn_r ?_))))))
        refine fin hH5 (fun w' hf => (res1 rfl (show RV _ _ _ (.tmp 4) _ from rfl))) (fun w' hf => ?_)
        first | exact congrArg (Value.int .i64) (S.tw1 (by omega)).symm | exact congrArg (Value.int .i64) (S.tw2 (by omega) (by omega)).symm | exact congrArg (Value.int .i64) (S.tw3 (by omega) (by omega) (by omega)).symm | exact congrArg (Value.int .i64) (S.two_iff.2 ⟨by omega, by omega, by omega⟩).symm
    · skip
      refine cond_t rfl (not_decide_t hc6) ?_
      refine seq (region (ops_y hH5 rfl rfl (yv_move rfl) ?_))
      refine op_fnV rfl rfl rfl hH5 (c24 (h1.now hH5 (n := 0) rfl) (by omega)) (fun w8 hH9 => ?_)
      refine ops_y hH9 rfl rfl (yv_assign rfl) (ops_nil (thn_n (ret (thn_r ?_))))
      refine fin hH9 (fun w' hf => (res1 rfl (show RV _ _ _ (.tmp 4) _ from rfl))) (fun w' hf => ?_)
      first | exact congrArg (Value.int .i64) (S.tw1 (by omega)).symm | exact congrArg (Value.int .i64) (S.tw2 (by omega) (by omega)).symm | exact congrArg (Value.int .i64) (S.tw3 (by omega) (by omega) (by omega)).symm | exact congrArg (Value.int .i64) (S.two_iff.2 ⟨by omega, by omega, by omega⟩).symm
  · skip
    refine cond_t rfl (not_decide_t hc3) ?_
    refine seq (region (ops_y hH2 rfl rfl (yv_move rfl) ?_))
    refine op_fnV rfl rfl rfl hH2 (c24 (h0.now hH2 (n := 0) rfl) (by omega)) (fun w10 hH11 => ?_)
    refine ops_y hH11 rfl rfl (yv_assign rfl) (ops_nil (thn_n (ret (thn_r ?_))))
    refine fin hH11 (fun w' hf => (res1 rfl (show RV _ _ _ (.tmp 4) _ from rfl))) (fun w' hf => ?_)
    first | exact congrArg (Value.int .i64) (S.tw1 (by omega)).symm | exact congrArg (Value.int .i64) (S.tw2 (by omega) (by omega)).symm | exact congrArg (Value.int .i64) (S.tw3 (by omega) (by omega) (by omega)).symm | exact congrArg (Value.int .i64) (S.two_iff.2 ⟨by omega, by omega, by omega⟩).symm

theorem c39 {v u : Value} {l m : List Int} {w : World} (h0 : Rd encI 1 v l w) (h1 : Rd encI 1 u m w) (hn : l.length ≤ 1000000) (hn2 : m.length ≤ 1000000)  :
    Fn Try.prog 39 [v, u].toArray w (fun u w => ∃ q, u = .tuple #[q, .int .i64 (S.join l m).2] ∧ Own 3 1 encI q (S.join l m).1 w) := by
  refine fn_of' (args := [v, u]) Try.func39 rfl (ent Try.func39 (by kernel_rfl) rfl) rfl rfl (fun hH => ?_)
  refine seq (region (ops_y hH rfl rfl (yv_assign rfl) (ops_y hH rfl rfl (yv_assign rfl) (ops_nil (thn_n (seq (seq (region (ops_y hH rfl rfl (yv_move rfl) ?_)))))))))
  refine ops_y hH rfl rfl (yv_move rfl) ?_
  refine op_fnV rfl rfl rfl hH (c92 (h0.now hH (n := 0) rfl) (h1.now hH (n := 0) rfl) (by omega) (by omega)) (fun w1 hH2 => ?_)
  refine ops_y hH2 rfl rfl (yv_neq rfl rfl) ?_
  refine ops_nil (thn_n ?_)
  by_cases hc3 : (S.two l m) = 0
  · skip
    have ht : S.two l m = 0 := by omega
    obtain ⟨hc1, hc2, hle⟩ := S.two_iff.1 ht
    have hj : S.J l := S.check_iff.1 hc1
    have hl10 := hj.2.1
    have hin : ∀ i, i < l.length → 0 ≤ nth l (i : Int) ∧ nth l (i : Int) < (m.length : Int) := fun i hi => by have := hj.nth (x := (i : Int)) (by omega) (by omega); omega
    refine cond_f rfl (not_decide_n hc3) ?_
    refine skip (thn_n (seq (region (ops_y hH2 rfl rfl (yv_move rfl) (ops_y hH2 rfl rfl (yv_move rfl) ?_)))))
    refine op_fn rfl rfl rfl hH2 (c63 (h0.now hH2 (n := 0) rfl) (h1.now hH2 (n := 0) rfl) (by omega) hin) (fun u6 w4 lo7 hi8 hH5 hv9 => ?_)
    have hH10 := Heap.toOw hH5 (n := 0) rfl
    refine ops_y hH10 rfl rfl (yv_assign rfl) (ops_y hH10 rfl rfl (yv_assign rfl) (ops_nil (thn_n (ret ?_))))
    refine fin (hH10.front (n := 1) rfl) (fun w' hf => (res2 rfl (show RV _ _ _ (.tmp 4) _ from rfl) (show RV _ _ _ (.tmp 5) _ from rfl))) (fun w' hf => ?_)
    first | (rw [S.jn1 ‹_›]; exact ⟨_, rfl, own_nil⟩) | (rw [S.jn2 ht]; exact ⟨_, rfl, Heap.own hf (n := 0) rfl⟩)
  · skip
    refine cond_t rfl (not_decide_t hc3) ?_
    refine seq (region (ops_y hH2 rfl rfl (yv_move rfl) (ops_y hH2 rfl rfl (yv_move rfl) ?_)))
    refine op_fnV rfl rfl rfl hH2 (c92 (h0.now hH2 (n := 0) rfl) (h1.now hH2 (n := 0) rfl) (by omega) (by omega)) (fun w11 hH12 => ?_)
    refine ops_y hH12 rfl rfl (yv_assign rfl) (ops_y hH12 rfl rfl (yv_assign rfl) (ops_nil (thn_n (ret (thn_r ?_)))))
    refine fin hH12 (fun w' hf => (res2 rfl (show RV _ _ _ (.tmp 4) _ from rfl) (show RV _ _ _ (.tmp 5) _ from rfl))) (fun w' hf => ?_)
    first | (rw [S.jn1 ‹_›]; exact ⟨_, rfl, own_nil⟩) | (rw [S.jn2 ht]; exact ⟨_, rfl, Heap.own hf (n := 0) rfl⟩)

theorem c37 {v : Value} {l : List Int} {t : Int} {w : World} (h0 : Rd encI 1 v l w) (hn : l.length ≤ 1000000)  :
    Fn Try.prog 37 [v, (.int .i64 t)].toArray w (fun u w => ∃ q, u = .tuple #[q, .int .i64 (S.power l t).2] ∧ Own 3 1 encI q (S.power l t).1 w) := by
  refine fn_of' (args := [v, (.int .i64 t)]) Try.func37 rfl (ent Try.func37 (by kernel_rfl) rfl) rfl rfl (fun hH => ?_)
  refine seq (region (ops_y hH rfl rfl (yv_assign rfl) (ops_y hH rfl rfl (yv_assign rfl) (ops_nil (thn_n (seq (seq ?_)))))))
  by_cases hc1 : S.check l 0 = 0
  · skip
    have hc0 : S.check l 0 = 0 := ‹_›
    have hj : S.J l := S.check_iff.1 hc0
    have hl1 := hj.1
    have hl10 := hj.2.1
    refine region (ops_y hH rfl rfl (yv_move rfl) ?_)
    refine op_fnV rfl rfl rfl hH (c24 (h0.now hH (n := 0) rfl) (by omega)) (fun w2 hH3 => ?_)
    refine ops_y hH3 rfl rfl (yv_neq rfl rfl) ?_
    refine ops_nil (thn_n ?_)
    have hc4 : ¬ (¬ ((S.check l 0) = 0)) := fun h => h hc0
    refine cond_f rfl (not_decide_f hc4) ?_
    refine skip (thn_n (seq (seq (region (ops_y hH3 rfl rfl (yv_move rfl) ?_)))))
    refine ops_y hH3 rfl rfl (yv_lss rfl rfl) ?_
    refine ops_y hH3 rfl rfl (yv_move rfl) ?_
    by_cases hc5 : t < 0
    · skip
      refine guard_no rfl rfl (decide_eq_true hc5) rfl ?_
      refine guard_no rfl rfl (decide_eq_true hc5) rfl ?_
      refine ops_y hH3 rfl rfl (yv_pick_t rfl (decide_eq_true hc5) rfl) ?_
      refine ops_nil (thn_n ?_)
      refine cond_t rfl rfl ?_
      refine seq (region (ops_y hH3 rfl rfl (yv_assign rfl) (ops_y hH3 rfl rfl (yv_assign rfl) (ops_nil (thn_n (ret (thn_r ?_)))))))
      refine fin hH3 (fun w' hf => (res2 rfl (show RV _ _ _ (.tmp 4) _ from rfl) (show RV _ _ _ (.tmp 5) _ from rfl))) (fun w' hf => ?_)
      first | (rw [S.po1 hcn]; exact ⟨_, rfl, own_nil⟩) | (rw [S.po2 hc0 (by omega)]; exact ⟨_, rfl, own_nil⟩) | (rw [S.po3 hc0 (by omega), ← S.pw_rem hj (k := k) (by omega) (by omega)]; exact ⟨_, rfl, Heap.own hf (n := 0) rfl⟩)
    · skip
      refine guard_yes rfl rfl (decide_eq_false hc5) ?_
      refine ops_y hH3 rfl rfl (yv_move rfl) ?_
      refine guard_yes rfl rfl (decide_eq_false hc5) ?_
      refine ops_y hH3 rfl rfl (yv_gtr rfl rfl) ?_
      refine ops_y hH3 rfl rfl (yv_pick_f rfl (decide_eq_false hc5) rfl) ?_
      refine ops_nil (thn_n ?_)
      by_cases hc6 : 1099511627776 < t
      · skip
        refine cond_t rfl (decide_eq_true hc6) ?_
        refine seq (region (ops_y hH3 rfl rfl (yv_assign rfl) (ops_y hH3 rfl rfl (yv_assign rfl) (ops_nil (thn_n (ret (thn_r ?_)))))))
        refine fin hH3 (fun w' hf => (res2 rfl (show RV _ _ _ (.tmp 4) _ from rfl) (show RV _ _ _ (.tmp 5) _ from rfl))) (fun w' hf => ?_)
        first | (rw [S.po1 hcn]; exact ⟨_, rfl, own_nil⟩) | (rw [S.po2 hc0 (by omega)]; exact ⟨_, rfl, own_nil⟩) | (rw [S.po3 hc0 (by omega), ← S.pw_rem hj (k := k) (by omega) (by omega)]; exact ⟨_, rfl, Heap.own hf (n := 0) rfl⟩)
      · skip
        refine cond_f rfl (decide_eq_false hc6) ?_
        refine skip (thn_n (seq (region (ops_y hH3 rfl rfl (yv_move rfl) ?_))))
        refine ops_y hH3 rfl rfl (yv_len T.sl22 rfl (h0.now hH3 (n := 0) rfl).is) ?_
        refine op_fn rfl rfl rfl hH3 (c58 (by omega) (by omega)) (fun u9 w7 lo10 hi11 hH8 hv12 => ?_)
        have hH13 := Heap.toOw hH8 (n := 0) rfl
        refine ops_y hH13 rfl rfl (yv_assign rfl) (ops_nil (thn_n (seq (seq ?_))))
        have hbd := S.rem_bd hj (t := t)
        have hap := S.again_pos (l := l)
        refine region (ops_y hH13 rfl rfl (yv_move rfl) (ops_y hH13 rfl rfl (yv_move rfl) ?_))
        refine op_fnV rfl rfl rfl hH13 (c90 (h0.now hH13 (n := 1) rfl) hj) (fun w14 hH15 => ?_)
        refine ops_y hH15 rfl rfl (yv_rem rfl rfl (by omega) (by omega)) ?_
        refine ops_y hH15 rfl rfl (yv_assign rfl) (ops_nil (thn_n (block ?_)))
        refine loop (S := Nat × Value × Nat × Nat) (fun (k, v_6, lo_6, hi_6) => [(7, (.int .i64 (t % S.again l - (k : Int)))), (6, v_6), (0, v), (4, (.slice none 0 0)), (5, (.int .i64 0))]) (fun (k, v_6, lo_6, hi_6) w1 => Heap [ow lo_6 hi_6 3 1 encI v_6 (S.pw l k), base w] w1 ∧ (k : Int) ≤ t % S.again l) (fun (k, v_6, lo_6, hi_6) => (t % S.again l - (k : Int)).toNat) (0, u9, lo10, hi11) (Sub.cons (congrArg (fun z => some (Value.int .i64 z)) (by omega)) (Sub.cons rfl (Sub.cons rfl (Sub.cons rfl (Sub.cons rfl (Sub.nil _)))))) ?_ ?_
        · exact ⟨(Heap.recast (n := 0) hH15 rfl (S.pw_zero.symm)), by omega⟩
        · rintro ⟨k, v_6, lo_6, hi_6⟩ w16 ⟨hH17, hk⟩
          show Holds _ _ _ _ _ [(7, (.int .i64 (t % S.again l - (k : Int)))), (6, v_6), (0, v), (4, (.slice none 0 0)), (5, (.int .i64 0))] _ _
          have hpl := S.pw_length (l := l) (k := k)
          have hpi := hj.pw_in (k := k)
          refine seq (seq (region (ops_y hH17 rfl rfl (yv_move rfl) ?_)))
          refine ops_y hH17 rfl rfl (yv_gtr rfl rfl) ?_
          refine ops_nil (thn_n ?_)
          by_cases hc18 : 0 < (t % S.again l - (k : Int))
          · skip
            refine cond_t rfl (decide_eq_true hc18) ?_
            refine skip (thn_n (seq (block (region (ops_y hH17 rfl rfl (yv_move rfl) (ops_y hH17 rfl rfl (yv_move rfl) ?_))))))
            refine op_fn rfl rfl rfl hH17 (c63 (Heap.rdw T.el22_encI hH17 (n := 0) rfl) (h0.now hH17 (n := 1) rfl) (by omega) hpi) (fun u21 w19 lo22 hi23 hH20 hv24 => ?_)
            have hH25 := Heap.toOw hH20 (n := 0) rfl
            refine ops_y hH25 rfl rfl (yv_assign rfl) (ops_nil (blk_n (thn_n (region (ops_y hH25 rfl rfl (yv_move rfl) ?_)))))
            refine ops_y hH25 rfl rfl (yv_sub rfl rfl (by omega)) ?_
            refine ops_y hH25 rfl rfl (yv_assign rfl) (ops_nil ?_)
            have hH26 := (hH25.sub (List.Sublist.cons_cons _ (List.Sublist.cons _ (List.Sublist.refl _))))
            refine lp_n (k + 1, u21, lo22, hi23) (Sub.cons (congrArg (fun z => some (Value.int .i64 z)) (by omega)) (Sub.cons rfl (Sub.cons rfl (Sub.cons rfl (Sub.cons rfl (Sub.nil _)))))) ?_ ?_
            · exact ⟨(Heap.recast (n := 0) hH26 rfl (S.pw_behind)), by omega⟩
            · first | (dsimp only; omega) | (show _ < _; omega)
          · skip
            refine cond_f rfl (decide_eq_false hc18) ?_
            refine exit (thn_x (lp_x (blk_here (thn_n (seq (region (ops_y hH17 rfl rfl (yv_move rfl) (ops_y hH17 rfl rfl (yv_assign rfl) (ops_y hH17 rfl rfl (yv_assign rfl) ?_)))))))))
            refine ops_nil (thn_n (ret ?_))
            refine fin (hH17.front (n := 1) rfl) (fun w' hf => (res2 rfl (show RV _ _ _ (.tmp 4) _ from rfl) (show RV _ _ _ (.tmp 5) _ from rfl))) (fun w' hf => ?_)
            first | (rw [S.po1 hcn]; exact ⟨_, rfl, own_nil⟩) | (rw [S.po2 hc0 (by omega)]; exact ⟨_, rfl, own_nil⟩) | (rw [S.po3 hc0 (by omega), ← S.pw_rem hj (k := k) (by omega) (by omega)]; exact ⟨_, rfl, Heap.own hf (n := 0) rfl⟩)
  · skip
    have hcn : ¬ S.check l 0 = 0 := ‹_›
    refine region (ops_y hH rfl rfl (yv_move rfl) ?_)
    refine op_fnV rfl rfl rfl hH (c24 (h0.now hH (n := 0) rfl) (by omega)) (fun w27 hH28 => ?_)
    refine ops_y hH28 rfl rfl (yv_neq rfl rfl) ?_
    refine ops_nil (thn_n ?_)
    have hc29 : ¬ ((S.check l 0) = 0) := hcn
    refine cond_t rfl (not_decide_t hc29) ?_
    refine seq (region (ops_y hH28 rfl rfl (yv_move rfl) ?_))
    refine op_fnV rfl rfl rfl hH28 (c24 (h0.now hH28 (n := 0) rfl) (by omega)) (fun w30 hH31 => ?_)
    refine ops_y hH31 rfl rfl (yv_assign rfl) (ops_y hH31 rfl rfl (yv_assign rfl) (ops_nil (thn_n (ret (thn_r ?_)))))
    refine fin hH31 (fun w' hf => (res2 rfl (show RV _ _ _ (.tmp 4) _ from rfl) (show RV _ _ _ (.tmp 5) _ from rfl))) (fun w' hf => ?_)
    first | (rw [S.po1 hcn]; exact ⟨_, rfl, own_nil⟩) | (rw [S.po2 hc0 (by omega)]; exact ⟨_, rfl, own_nil⟩) | (rw [S.po3 hc0 (by omega), ← S.pw_rem hj (k := k) (by omega) (by omega)]; exact ⟨_, rfl, Heap.own hf (n := 0) rfl⟩)

end Go.Fip

set_option linter.unusedVariables false
set_option linter.unusedSimpArgs false
set_option linter.unusedSectionVars false
set_option linter.unnecessarySimpa false
namespace Go.Fip
open Go.Proofs Go.RowKit

theorem c76 {v : Value} {l : List Int} {w : World} (h0 : Rd encI 1 v l w) (hn : l.length ≤ 10)  :
    Fn Try.prog 76 [v].toArray w (fun u w => Own 70 2 encP u (S.wrongOf l) w) := by
  refine fn_of' (args := [v]) Try.func76 rfl (ent Try.func76 (by kernel_rfl) rfl) rfl rfl (fun hH => ?_)
  refine seq (region (ops_y hH rfl rfl (yv_assign rfl) (ops_nil (thn_n (seq (region (ops_y hH rfl rfl (yv_assign rfl) (ops_nil (thn_n ?_)))))))))
  refine seq (seq (region (ops_y hH rfl rfl (yv_assign rfl) (ops_nil (thn_n (block ?_))))))
  have hH1 := ow_nil (enc := encP) 70 2 hH
  refine loop (S := Nat × Value × Nat × Nat) (fun (k, v_3, lo_3, hi_3) => [(4, (.int .i64 (k : Int))), (3, v_3), (0, v), (2, (.slice none 0 0))]) (fun (k, v_3, lo_3, hi_3) w1 => Heap [ow lo_3 hi_3 70 2 encP v_3 (S.wrongTo l k), base w] w1 ∧ k ≤ l.length) (fun (k, v_3, lo_3, hi_3) => l.length - k) (0, (.slice none 0 0), w.heap.size, w.heap.size) (Sub.cons rfl (Sub.cons rfl (Sub.cons rfl (Sub.cons rfl (Sub.nil _))))) ?_ ?_
  · exact ⟨(Heap.recast (n := 0) hH1 rfl (rfl)), by omega⟩
  · rintro ⟨k, v_3, lo_3, hi_3⟩ w2 ⟨hH3, hk⟩
    show Holds _ _ _ _ _ [(4, (.int .i64 (k : Int))), (3, v_3), (0, v), (2, (.slice none 0 0))] _ _
    have hwl := S.wrongTo_le (l := l) hn k
    refine seq (seq (region (ops_y hH3 rfl rfl (yv_move rfl) (ops_y hH3 rfl rfl (yv_move rfl) ?_))))
    refine ops_y hH3 rfl rfl (yv_len T.sl22 rfl (h0.now hH3 (n := 1) rfl).is) ?_
    refine ops_y hH3 rfl rfl (yv_lss rfl rfl) ?_
    refine ops_nil (thn_n ?_)
    by_cases hc4 : (k : Int) < (l.length : Int)
    · skip
      refine cond_t rfl (decide_eq_true hc4) ?_
      refine skip (thn_n (seq (block (seq (region (ops_y hH3 rfl rfl (yv_move rfl) ?_))))))
      refine ops_y hH3 rfl rfl (yv_add rfl rfl (by omega)) ?_
      refine ops_y hH3 rfl rfl (yv_assign rfl) (ops_nil (thn_n (block ?_)))
      refine loop (S := Nat × Value × Nat × Nat) (fun (j, v_3, lo_3, hi_3) => [(5, (.int .i64 (j : Int))), (3, v_3), (0, v), (2, (.slice none 0 0)), (4, (.int .i64 (k : Int)))]) (fun (j, v_3, lo_3, hi_3) w1 => Heap [ow lo_3 hi_3 70 2 encP v_3 (S.wrongTo l k ++ S.rowTo l k j), base w] w1 ∧ k + 1 ≤ j ∧ j ≤ l.length) (fun (j, v_3, lo_3, hi_3) => l.length - j) ((k + 1), v_3, lo_3, hi_3) (Sub.cons rfl (Sub.cons rfl (Sub.cons rfl (Sub.cons rfl (Sub.cons rfl (Sub.nil _)))))) ?_ ?_
      · exact ⟨(Heap.recast (n := 0) hH3 rfl (by rw [S.rowTo_start (Nat.le_refl _)]; simp)), by omega, by omega⟩
      · rintro ⟨j, v_3, lo_3, hi_3⟩ w5 ⟨hH6, hkj, hjl⟩
        show Holds _ _ _ _ _ [(5, (.int .i64 (j : Int))), (3, v_3), (0, v), (2, (.slice none 0 0)), (4, (.int .i64 (k : Int)))] _ _
        have hrl := S.rowTo_le (l := l) (i := k) (k := j)
        have hal : (S.wrongTo l k ++ S.rowTo l k j).length = (S.wrongTo l k).length + (S.rowTo l k j).length := List.length_append
        refine seq (seq (region (ops_y hH6 rfl rfl (yv_move rfl) (ops_y hH6 rfl rfl (yv_move rfl) ?_))))
        refine ops_y hH6 rfl rfl (yv_len T.sl22 rfl (h0.now hH6 (n := 1) rfl).is) ?_
        refine ops_y hH6 rfl rfl (yv_lss rfl rfl) ?_
        refine ops_nil (thn_n ?_)
        by_cases hc7 : (j : Int) < (l.length : Int)
        · skip
          refine cond_t rfl (decide_eq_true hc7) ?_
          refine skip (thn_n (seq (block (seq ?_))))
          refine region_draw (fun w' => Heap [ow lo_3 hi_3 70 2 encP v_3 (S.wrongTo l k ++ S.rowTo l k j), base w] w') T.mixed (fun w8 hr9 => ?_)
          have hH10 := hH6.redrawn hr9
          refine any_takes [0, 1, 2, 3, 4, 5, 6, 7, 8] (by kernel_rfl) hH10 _ _ _ (by kernel_rfl) ?_
          refine qs_y rfl rfl (yv_move rfl) (qs_y rfl rfl (yv_move rfl) ?_)
          refine qs_y rfl rfl (yv_index T.sl22 rfl rfl (h0.now hH10 (n := 1) rfl).is (by omega)) ?_
          refine qs_y rfl rfl (yv_load T.one3 rfl (fun _ hw => Rd.at (h0.now hw (n := 1) rfl) (i := (k : Int)) (by omega) (j := 0) rfl)) ?_
          refine qs_y rfl rfl (yv_move rfl) (qs_y rfl rfl (yv_move rfl) ?_)
          refine qs_y rfl rfl (yv_index T.sl22 rfl rfl (h0.now hH10 (n := 1) rfl).is (by omega)) ?_
          refine qs_y rfl rfl (yv_load T.one3 rfl (fun _ hw => Rd.at (h0.now hw (n := 1) rfl) (i := (j : Int)) (by omega) (j := 0) rfl)) ?_
          refine qs_y rfl rfl (yv_gtr rfl rfl) ?_
          refine qs_nil ?_
          refine any_done (by kernel_rfl) ?_
          refine thn_n ?_
          by_cases hc11 : (nth l (j : Int)) < (nth l (k : Int))
          · skip
            refine cond_t rfl (decide_eq_true hc11) ?_
            refine region (ops_y hH10 rfl rfl (yv_move rfl) (ops_y hH10 rfl rfl (yv_move rfl) (ops_y hH10 rfl rfl (yv_move rfl) ?_)))
            refine ops_y hH10 rfl rfl (yv_build (v := (.agg #[(.int .i64 (k : Int)), (.int .i64 (j : Int))])) (us := [(0, (.int .i64 (k : Int))), (1, (.int .i64 (j : Int)))]) (fun a ha => by simp [ha.ev (show ev _ (.tmp 30) = some _ from rfl), ha.ev (show ev _ (.tmp 31) = some _ from rfl)]) (fun w => by kernel_rfl)) ?_
            refine op_lit (us := [(0, (.agg #[(.int .i64 (k : Int)), (.int .i64 (j : Int))]))]) T.el29_encP [((k : Int), (j : Int))] rfl (by decide) rfl (fun a ha => by simp [ha.ev (show ev _ (.tmp 32) = some _ from rfl)]) (fun w => by kernel_rfl) hH10 (fun u12 lo14 hi15 w13 hH16 => ?_)
            refine op_append (n := 1) T.el29_encP rfl rfl rfl hH16 rfl (Heap.rdw T.el29_encP hH16 (n := 0) rfl) (by simp only [List.length_append, List.length_cons, List.length_nil]; omega) (fun u17 lo19 hi20 w18 hH21 => ?_)
            refine ops_y hH21 rfl rfl (yv_assign rfl) (ops_nil (blk_n (thn_n (region (ops_y hH21 rfl rfl (yv_move rfl) ?_)))))
            refine ops_y hH21 rfl rfl (yv_add rfl rfl (by omega)) ?_
            refine ops_y hH21 rfl rfl (yv_assign rfl) (ops_nil ?_)
            have hH22 := (hH21.sub (List.Sublist.cons _ (List.Sublist.refl _)))
            refine lp_n (j + 1, u17, lo19, hi20) (Sub.cons rfl (Sub.cons rfl (Sub.cons rfl (Sub.cons rfl (Sub.cons rfl (Sub.nil _)))))) ?_ ?_
            · exact ⟨(Heap.recast (n := 0) hH22 rfl (by first | (rw [S.rowTo_t (by omega) (by omega)]; simp; done) | (rw [S.rowTo_f (by omega)]; done))), by omega, by omega⟩
            · first | (dsimp only; omega) | (show _ < _; omega)
          · skip
            refine cond_f rfl (decide_eq_false hc11) ?_
            refine skip (blk_n (thn_n (region (ops_y hH10 rfl rfl (yv_move rfl) ?_))))
            refine ops_y hH10 rfl rfl (yv_add rfl rfl (by omega)) ?_
            refine ops_y hH10 rfl rfl (yv_assign rfl) (ops_nil ?_)
            refine lp_n (j + 1, v_3, lo_3, hi_3) (Sub.cons rfl (Sub.cons rfl (Sub.cons rfl (Sub.cons rfl (Sub.cons rfl (Sub.nil _)))))) ?_ ?_
            · exact ⟨(Heap.recast (n := 0) hH10 rfl (by first | (rw [S.rowTo_t (by omega) (by omega)]; simp; done) | (rw [S.rowTo_f (by omega)]; done))), by omega, by omega⟩
            · first | (dsimp only; omega) | (show _ < _; omega)
        · skip
          refine cond_f rfl (decide_eq_false hc7) ?_
          refine exit (thn_x (lp_x (blk_here (blk_n (thn_n (region (ops_y hH6 rfl rfl (yv_move rfl) ?_)))))))
          refine ops_y hH6 rfl rfl (yv_add rfl rfl (by omega)) ?_
          refine ops_y hH6 rfl rfl (yv_assign rfl) (ops_nil ?_)
          refine lp_n (k + 1, v_3, lo_3, hi_3) (Sub.cons rfl (Sub.cons rfl (Sub.cons rfl (Sub.cons rfl (Sub.nil _))))) ?_ ?_
          · exact ⟨(Heap.recast (n := 0) hH6 rfl (by rw [S.wrongTo_succ, show j = l.length by omega])), by omega⟩
          · first | (dsimp only; omega) | (show _ < _; omega)
    · skip
      refine cond_f rfl (decide_eq_false hc4) ?_
      refine exit (thn_x (lp_x (blk_here (thn_n (seq (region (ops_y hH3 rfl rfl (yv_move rfl) (ops_y hH3 rfl rfl (yv_assign rfl) (ops_nil ?_)))))))))
      refine thn_n (ret ?_)
      refine fin (hH3.front (n := 1) rfl) (fun w' hf => (res1 rfl (show RV _ _ _ (.tmp 2) _ from rfl))) (fun w' hf => ?_)
      have hk2 : k = l.length := by omega
      subst hk2; exact Heap.own hf (n := 0) rfl

theorem c22 {v : Value} {l : List Int} {w : World} (h0 : Rd encI 1 v l w) (hn : l.length ≤ 1000000)  :
    Fn Try.prog 22 [v].toArray w (fun u w => ∃ q, u = .tuple #[q, .int .i64 (S.wrong l).2] ∧ Own 70 2 encP q (S.wrong l).1 w) := by
  refine fn_of' (args := [v]) Try.func22 rfl (ent Try.func22 (by kernel_rfl) rfl) rfl rfl (fun hH => ?_)
  refine seq (region (ops_y hH rfl rfl (yv_assign rfl) (ops_y hH rfl rfl (yv_assign rfl) (ops_nil (thn_n (seq (seq ?_)))))))
  by_cases hc1 : S.check l 0 = 0
  · skip
    have hc0 : S.check l 0 = 0 := ‹_›
    have hj : S.J l := S.check_iff.1 hc0
    have hl1 := hj.1
    have hl10 := hj.2.1
    refine region (ops_y hH rfl rfl (yv_move rfl) ?_)
    refine op_fnV rfl rfl rfl hH (c24 (h0.now hH (n := 0) rfl) (by omega)) (fun w2 hH3 => ?_)
    refine ops_y hH3 rfl rfl (yv_neq rfl rfl) ?_
    refine ops_nil (thn_n ?_)
    have hc4 : ¬ (¬ ((S.check l 0) = 0)) := fun h => h hc0
    refine cond_f rfl (not_decide_f hc4) ?_
    refine skip (thn_n (seq (region (ops_y hH3 rfl rfl (yv_move rfl) ?_))))
    refine op_fn rfl rfl rfl hH3 (c76 (h0.now hH3 (n := 0) rfl) (by omega)) (fun u7 w5 lo8 hi9 hH6 hv10 => ?_)
    have hH11 := Heap.toOw hH6 (n := 0) rfl
    refine ops_y hH11 rfl rfl (yv_assign rfl) (ops_y hH11 rfl rfl (yv_assign rfl) (ops_nil (thn_n (ret ?_))))
    refine fin (hH11.front (n := 1) rfl) (fun w' hf => (res2 rfl (show RV _ _ _ (.tmp 2) _ from rfl) (show RV _ _ _ (.tmp 3) _ from rfl))) (fun w' hf => ?_)
    first | (rw [S.wr1 hcn]; exact ⟨_, rfl, own_nil⟩) | (rw [S.wr2 hc0]; exact ⟨_, rfl, Heap.own hf (n := 0) rfl⟩)
  · skip
    have hcn : ¬ S.check l 0 = 0 := ‹_›
    refine region (ops_y hH rfl rfl (yv_move rfl) ?_)
    refine op_fnV rfl rfl rfl hH (c24 (h0.now hH (n := 0) rfl) (by omega)) (fun w12 hH13 => ?_)
    refine ops_y hH13 rfl rfl (yv_neq rfl rfl) ?_
    refine ops_nil (thn_n ?_)
    have hc14 : ¬ ((S.check l 0) = 0) := hcn
    refine cond_t rfl (not_decide_t hc14) ?_
    refine seq (region (ops_y hH13 rfl rfl (yv_move rfl) ?_))
    refine op_fnV rfl rfl rfl hH13 (c24 (h0.now hH13 (n := 0) rfl) (by omega)) (fun w15 hH16 => ?_)
    refine ops_y hH16 rfl rfl (yv_assign rfl) (ops_y hH16 rfl rfl (yv_assign rfl) (ops_nil (thn_n (ret (thn_r ?_)))))
    refine fin hH16 (fun w' hf => (res2 rfl (show RV _ _ _ (.tmp 2) _ from rfl) (show RV _ _ _ (.tmp 3) _ from rfl))) (fun w' hf => ?_)
    first | (rw [S.wr1 hcn]; exact ⟨_, rfl, own_nil⟩) | (rw [S.wr2 hc0]; exact ⟨_, rfl, Heap.own hf (n := 0) rfl⟩)

theorem c21 {v : Value} {l : List Int} {w : World} (h0 : Rd encI 1 v l w) (hn : l.length ≤ 1000000)  :
    Fn Try.prog 21 [v].toArray w (fun u w => ∃ q, u = .tuple #[q, .int .i64 (S.wrong l).2] ∧ Own 70 2 encP q (S.wrong l).1 w) := by
  refine fn_of' (args := [v]) Try.func21 rfl (ent Try.func21 (by kernel_rfl) rfl) rfl rfl (fun hH => ?_)
  refine seq (region (ops_y hH rfl rfl (yv_assign rfl) (ops_y hH rfl rfl (yv_assign rfl) (ops_nil (thn_n (seq (seq ?_)))))))
  by_cases hc1 : S.check l 0 = 0
  · skip
    have hc0 : S.check l 0 = 0 := ‹_›
    have hj : S.J l := S.check_iff.1 hc0
    have hl1 := hj.1
    have hl10 := hj.2.1
    refine region (ops_y hH rfl rfl (yv_move rfl) ?_)
    refine op_fnV rfl rfl rfl hH (c23 (h0.now hH (n := 0) rfl) (by omega)) (fun w2 hH3 => ?_)
    refine ops_y hH3 rfl rfl (yv_assign rfl) (ops_nil (thn_n (seq (region (ops_y hH3 rfl rfl (yv_move rfl) ?_)))))
    refine ops_y hH3 rfl rfl (yv_neq rfl rfl) ?_
    refine ops_nil (thn_n ?_)
    have hc4 : ¬ (¬ ((S.check l 0) = 0)) := fun h => h hc0
    refine cond_f rfl (not_decide_f hc4) ?_
    refine skip (thn_n (seq (region (ops_y hH3 rfl rfl (yv_assign rfl) (ops_nil (thn_n (seq (seq (region ?_)))))))))
    refine ops_y hH3 rfl rfl (yv_move rfl) ?_
    refine ops_y hH3 rfl rfl (yv_len T.sl22 rfl (h0.now hH3 (n := 0) rfl).is) ?_
    refine ops_y hH3 rfl rfl (yv_move rfl) (ops_nil (thn_n (block ?_)))
    have hH5 := ow_nil (enc := encP) 70 2 hH3
    refine loop (S := Nat × Value × Nat × Nat) (fun (k, v_5, lo_5, hi_5) => [(17, (.int .i64 (k : Int))), (5, v_5), (0, v), (2, (.slice none 0 0)), (3, (.int .i64 0)), (15, v), (16, (.int .i64 (l.length : Int)))]) (fun (k, v_5, lo_5, hi_5) w1 => Heap [ow lo_5 hi_5 70 2 encP v_5 (S.wrongTo l k), base w] w1 ∧ k ≤ l.length) (fun (k, v_5, lo_5, hi_5) => l.length - k) (0, (.slice none 0 0), w2.heap.size, w2.heap.size) (Sub.cons rfl (Sub.cons rfl (Sub.cons rfl (Sub.cons rfl (Sub.cons rfl (Sub.cons rfl (Sub.cons rfl (Sub.nil _)))))))) ?_ ?_
    · exact ⟨(Heap.recast (n := 0) hH5 rfl (rfl)), by omega⟩
    · rintro ⟨k, v_5, lo_5, hi_5⟩ w6 ⟨hH7, hk⟩
      show Holds _ _ _ _ _ [(17, (.int .i64 (k : Int))), (5, v_5), (0, v), (2, (.slice none 0 0)), (3, (.int .i64 0)), (15, v), (16, (.int .i64 (l.length : Int)))] _ _
      have hwl := S.wrongTo_le (l := l) hl10 k
      refine seq (region ?_)
      refine ops_y hH7 rfl rfl (yv_lss rfl rfl) ?_
      refine ops_nil (thn_n (seq ?_))
      by_cases hc8 : (k : Int) < (l.length : Int)
      · skip
        refine cond_t rfl (decide_eq_true hc8) ?_
        refine skip (thn_n (seq (block (seq (region (ops_y hH7 rfl rfl (yv_move rfl) ?_))))))
        refine ops_y hH7 rfl rfl (yv_index T.sl22 rfl rfl (h0.now hH7 (n := 1) rfl).is (by omega)) ?_
        refine ops_y hH7 rfl rfl (yv_load T.one3 rfl (fun _ hw => Rd.at (h0.now hw (n := 1) rfl) (i := (k : Int)) (by omega) (j := 0) rfl)) ?_
        refine ops_y hH7 rfl rfl (yv_assign rfl) (ops_y hH7 rfl rfl (yv_assign rfl) (ops_nil (thn_n (seq (region (ops_y hH7 rfl rfl (yv_move rfl) (ops_y hH7 rfl rfl (yv_move rfl) ?_)))))))
        refine ops_y hH7 rfl rfl (yv_cut_lo T.sl22 rfl rfl (h0.now hH7 (n := 1) rfl).is (by omega)) ?_
        refine ops_y hH7 rfl rfl (yv_len T.sl22 rfl (Rd.from (h0.now hH7 (n := 1) rfl) (lo := (k : Int).toNat) (by omega)).is) ?_
        refine ops_y hH7 rfl rfl (yv_move rfl) (ops_nil (thn_n (block ?_)))
        refine loop (S := Nat × Value × Nat × Nat) (fun (j, v_5, lo_5, hi_5) => [(26, (.int .i64 (j : Int))), (5, v_5), (0, v), (2, (.slice none 0 0)), (3, (.int .i64 0)), (6, (.int .i64 (k : Int))), (7, (.int .i64 (nth l (k : Int)))), (15, v), (16, (.int .i64 (l.length : Int))), (17, (.int .i64 (k : Int))), (24, (cutv v 1 (k : Int).toNat l.length)), (25, (.int .i64 ((l.drop (k : Int).toNat).length : Int)))]) (fun (j, v_5, lo_5, hi_5) w1 => Heap [ow lo_5 hi_5 70 2 encP v_5 (S.wrongTo l k ++ S.rowTo l k (k + j)), base w] w1 ∧ j ≤ (l.drop ((k : Int)).toNat).length) (fun (j, v_5, lo_5, hi_5) => (l.drop ((k : Int)).toNat).length - j) (0, v_5, lo_5, hi_5) (Sub.cons rfl (Sub.cons rfl (Sub.cons rfl (Sub.cons rfl (Sub.cons rfl (Sub.cons rfl (Sub.cons rfl (Sub.cons rfl (Sub.cons rfl (Sub.cons rfl (Sub.cons rfl (Sub.cons rfl (Sub.nil _))))))))))))) ?_ ?_
        · exact ⟨(Heap.recast (n := 0) hH7 rfl (by rw [S.rowTo_start (by omega)]; simp)), by omega⟩
        · rintro ⟨j, v_5, lo_5, hi_5⟩ w9 ⟨hH10, hjl⟩
          show Holds _ _ _ _ _ [(26, (.int .i64 (j : Int))), (5, v_5), (0, v), (2, (.slice none 0 0)), (3, (.int .i64 0)), (6, (.int .i64 (k : Int))), (7, (.int .i64 (nth l (k : Int)))), (15, v), (16, (.int .i64 (l.length : Int))), (17, (.int .i64 (k : Int))), (24, (cutv v 1 (k : Int).toNat l.length)), (25, (.int .i64 ((l.drop (k : Int).toNat).length : Int)))] _ _
          have hdl : (l.drop ((k : Int)).toNat).length = l.length - k := by rw [List.length_drop]; omega
          have hrl := S.rowTo_le (l := l) (i := k) (k := k + j)
          have hal : (S.wrongTo l k ++ S.rowTo l k (k + j)).length = (S.wrongTo l k).length + (S.rowTo l k (k + j)).length := List.length_append
          have hnd : nth (l.drop ((k : Int)).toNat) (j : Int) = nth l ((k + j : Nat) : Int) := S.nth_drop_nat
          refine seq (region ?_)
          refine ops_y hH10 rfl rfl (yv_lss rfl rfl) ?_
          refine ops_nil (thn_n (seq ?_))
          by_cases hc11 : (j : Int) < ((l.drop (k : Int).toNat).length : Int)
          · skip
            refine cond_t rfl (decide_eq_true hc11) ?_
            refine skip (thn_n (seq (block (seq (region (ops_y hH10 rfl rfl (yv_move rfl) ?_))))))
            refine ops_y hH10 rfl rfl (yv_index T.sl22 rfl rfl (Rd.from (h0.now hH10 (n := 1) rfl) (lo := (k : Int).toNat) (by omega)).is (by omega)) ?_
            refine ops_y hH10 rfl rfl (yv_load T.one3 rfl (fun _ hw => Rd.at (Rd.from (h0.now hw (n := 1) rfl) (lo := (k : Int).toNat) (by omega)) (i := (j : Int)) (by omega) (j := 0) rfl)) ?_
            refine ops_y hH10 rfl rfl (yv_assign rfl) (ops_y hH10 rfl rfl (yv_assign rfl) (ops_nil (thn_n (seq (region (ops_y hH10 rfl rfl (yv_move rfl) (ops_y hH10 rfl rfl (yv_move rfl) ?_)))))))
            refine ops_y hH10 rfl rfl (yv_gtr rfl rfl) ?_
            refine ops_nil (thn_n ?_)
            by_cases hc12 : (nth (l.drop (k : Int).toNat) (j : Int)) < (nth l (k : Int))
            · skip
              have hj0 : 0 < j := Nat.pos_of_ne_zero (fun e => by subst e; rw [Nat.add_zero] at hnd; omega)
              refine cond_t rfl (decide_eq_true hc12) ?_
              refine region (ops_y hH10 rfl rfl (yv_move rfl) (ops_y hH10 rfl rfl (yv_move rfl) (ops_y hH10 rfl rfl (yv_move rfl) (ops_y hH10 rfl rfl (yv_move rfl) ?_))))
              refine ops_y hH10 rfl rfl (yv_add rfl rfl (by omega)) ?_
              refine ops_y hH10 rfl rfl (yv_build (v := (.agg #[(.int .i64 (k : Int)), (.int .i64 ((k : Int) + (j : Int)))])) (us := [(0, (.int .i64 (k : Int))), (1, (.int .i64 ((k : Int) + (j : Int))))]) (fun a ha => by simp [ha.ev (show ev _ (.tmp 35) = some _ from rfl), ha.ev (show ev _ (.tmp 38) = some _ from rfl)]) (fun w => by kernel_rfl)) ?_
              refine op_lit (us := [(0, (.agg #[(.int .i64 (k : Int)), (.int .i64 ((k : Int) + (j : Int)))]))]) T.el29_encP [((k : Int), (k : Int) + (j : Int))] rfl (by decide) rfl (fun a ha => by simp [ha.ev (show ev _ (.tmp 39) = some _ from rfl)]) (fun w => by kernel_rfl) hH10 (fun u13 lo15 hi16 w14 hH17 => ?_)
              refine op_append (n := 1) T.el29_encP rfl rfl rfl hH17 rfl (Heap.rdw T.el29_encP hH17 (n := 0) rfl) (by simp only [List.length_append, List.length_cons, List.length_nil]; omega) (fun u18 lo20 hi21 w19 hH22 => ?_)
              refine ops_y hH22 rfl rfl (yv_assign rfl) (ops_nil (blk_n (thn_n (region ?_))))
              refine ops_y hH22 rfl rfl (yv_add rfl rfl (by omega)) ?_
              refine ops_y hH22 rfl rfl (yv_move rfl) (ops_nil ?_)
              have hH23 := (hH22.sub (List.Sublist.cons _ (List.Sublist.refl _)))
              refine lp_n (j + 1, u18, lo20, hi21) (Sub.cons rfl (Sub.cons rfl (Sub.cons rfl (Sub.cons rfl (Sub.cons rfl (Sub.cons rfl (Sub.cons rfl (Sub.cons rfl (Sub.cons rfl (Sub.cons rfl (Sub.cons rfl (Sub.cons rfl (Sub.nil _))))))))))))) ?_ ?_
              · exact ⟨(Heap.recast (n := 0) hH23 rfl (by first | (rw [show k + (j + 1) = (k + j) + 1 from rfl, S.rowTo_t (by omega) (by omega)]; exact List.append_assoc _ _ _) | (rw [show k + (j + 1) = (k + j) + 1 from rfl, S.rowTo_f (by omega)]; done))), by omega⟩
              · first | (dsimp only; omega) | (show _ < _; omega)
            · skip
              refine cond_f rfl (decide_eq_false hc12) ?_
              refine skip (blk_n (thn_n (region ?_)))
              refine ops_y hH10 rfl rfl (yv_add rfl rfl (by omega)) ?_
              refine ops_y hH10 rfl rfl (yv_move rfl) (ops_nil ?_)
              refine lp_n (j + 1, v_5, lo_5, hi_5) (Sub.cons rfl (Sub.cons rfl (Sub.cons rfl (Sub.cons rfl (Sub.cons rfl (Sub.cons rfl (Sub.cons rfl (Sub.cons rfl (Sub.cons rfl (Sub.cons rfl (Sub.cons rfl (Sub.cons rfl (Sub.nil _))))))))))))) ?_ ?_
              · exact ⟨(Heap.recast (n := 0) hH10 rfl (by first | (rw [show k + (j + 1) = (k + j) + 1 from rfl, S.rowTo_t (by omega) (by omega)]; exact List.append_assoc _ _ _) | (rw [show k + (j + 1) = (k + j) + 1 from rfl, S.rowTo_f (by omega)]; done))), by omega⟩
              · first | (dsimp only; omega) | (show _ < _; omega)
          · skip
            refine cond_f rfl (decide_eq_false hc11) ?_
            refine exit (thn_x (lp_x (blk_here (blk_n (thn_n (region ?_))))))
            refine ops_y hH10 rfl rfl (yv_add rfl rfl (by omega)) ?_
            refine ops_y hH10 rfl rfl (yv_move rfl) (ops_nil ?_)
            refine lp_n (k + 1, v_5, lo_5, hi_5) (Sub.cons rfl (Sub.cons rfl (Sub.cons rfl (Sub.cons rfl (Sub.cons rfl (Sub.cons rfl (Sub.cons rfl (Sub.nil _)))))))) ?_ ?_
            · exact ⟨(Heap.recast (n := 0) hH10 rfl (by rw [S.wrongTo_succ, show k + j = l.length by omega])), by omega⟩
            · first | (dsimp only; omega) | (show _ < _; omega)
      · skip
        refine cond_f rfl (decide_eq_false hc8) ?_
        refine exit (thn_x (lp_x (blk_here (thn_n (seq (region (ops_y hH7 rfl rfl (yv_move rfl) (ops_y hH7 rfl rfl (yv_assign rfl) (ops_y hH7 rfl rfl (yv_assign rfl) ?_)))))))))
        refine ops_nil (thn_n (ret ?_))
        refine fin (hH7.front (n := 1) rfl) (fun w' hf => (res2 rfl (show RV _ _ _ (.tmp 2) _ from rfl) (show RV _ _ _ (.tmp 3) _ from rfl))) (fun w' hf => ?_)
        first | (rw [S.wr1 hcn]; exact ⟨_, rfl, own_nil⟩) | (have hk2 : k = l.length := (by omega); subst hk2; rw [S.wr2 hc0]; exact ⟨_, rfl, Heap.own hf (n := 0) rfl⟩)
  · skip
    have hcn : ¬ S.check l 0 = 0 := ‹_›
    refine region (ops_y hH rfl rfl (yv_move rfl) ?_)
    refine op_fnV rfl rfl rfl hH (c23 (h0.now hH (n := 0) rfl) (by omega)) (fun w24 hH25 => ?_)
    refine ops_y hH25 rfl rfl (yv_assign rfl) (ops_nil (thn_n (seq (region (ops_y hH25 rfl rfl (yv_move rfl) ?_)))))
    refine ops_y hH25 rfl rfl (yv_neq rfl rfl) ?_
    refine ops_nil (thn_n ?_)
    have hc26 : ¬ ((S.check l 0) = 0) := hcn
    refine cond_t rfl (not_decide_t hc26) ?_
    refine seq (region (ops_y hH25 rfl rfl (yv_move rfl) (ops_y hH25 rfl rfl (yv_assign rfl) (ops_y hH25 rfl rfl (yv_assign rfl) (ops_nil (thn_n (ret (thn_r ?_))))))))
    refine fin hH25 (fun w' hf => (res2 rfl (show RV _ _ _ (.tmp 2) _ from rfl) (show RV _ _ _ (.tmp 3) _ from rfl))) (fun w' hf => ?_)
    first | (rw [S.wr1 hcn]; exact ⟨_, rfl, own_nil⟩) | (have hk2 : k = l.length := (by omega); subst hk2; rw [S.wr2 hc0]; exact ⟨_, rfl, Heap.own hf (n := 0) rfl⟩)

end Go.Fip
