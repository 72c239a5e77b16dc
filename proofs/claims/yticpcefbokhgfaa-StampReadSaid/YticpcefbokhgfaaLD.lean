/- Walks, by program (wip/tools). -/
import Derived.Test.YticpcefbokhgfaaMJ
import Derived.Test.YticpcefbokhgfaaMN
set_option linter.unusedVariables false
set_option linter.unusedSimpArgs false
set_option linter.unusedSectionVars false
set_option linter.unnecessarySimpa false
namespace Go.Fip
open Go.Proofs Go.RowKit

section
variable {P : Program} {N : Nat} {ds : List Deferred} {env : Env} {S : World → Prop} {x y : Operand}
theorem yv_shr16 {T T' : TypeId} {n m : Int} (hx : ev env x = some (.int .u16 m)) (hy : ev env y = some (.int .i64 n)) (h0 : 0 ≤ n ∧ n ≤ 16) : Yv P N ds env (.binOp .shr T x y T') (.int .u16 (m / 2 ^ n.toNat)) S := fun act hact w _ _ _ _ _ _ => by
  have e := shift_shr .u16 .i64 m n h0.1 (show n ≤ IntKind.u16.bits by show n ≤ 16; omega)
  simp only [execOp, hact.ev hx, hact.ev hy, eqGuard, binOp, Sem.run_bind]
  rw [e]
  rfl
/-- The lowest bit, whatever it is. -/
def and16 (m : Int) : Int := IntKind.u16.wrap ((BitVec.ofInt 16 m &&& BitVec.ofInt 16 1).toNat : Int)
theorem yv_and16 {T T' : TypeId} {m : Int} (hx : ev env x = some (.int .u16 m)) (hy : ev env y = some (.int .u16 1)) : Yv P N ds env (.binOp .and T x y T') (.int .u16 (and16 m)) S := fun act hact w _ _ _ _ _ _ => by
  simp only [execOp, hact.ev hx, hact.ev hy, eqGuard, binOp, Op.intBits, Sem.run_bind]
  simp [Result.andThen]
  rfl
end
theorem fact_one {n : Nat} (h : ¬ 1 < (S.fact n : Int)) : n ≤ 1 := Classical.byContradiction fun hn => by
  have h1 := S.fact_mono (m := 2) (n := n) (by omega)
  have h2 : S.fact 2 = 2 := rfl
  omega
theorem c14 {v : Value} {l : List Int} {o1 o2 : Int} {w : World} (h0 : Rd encI 1 v l w) (hb1 : 0 ≤ o1 ∧ o1 ≤ 65535) (hb2 : 0 ≤ o2 ∧ o2 ≤ 255)  :
    Fn Try.prog 14 [v, (.int .u16 o1), (.int .u8 o2)].toArray w (fun u _ => u = .bool true) := by
  refine fn_of' (args := [v, (.int .u16 o1), (.int .u8 o2)]) Try.func14 rfl (ent Try.func14 (by kernel_rfl) rfl) rfl rfl (fun hH => ?_)
  refine seq (region (ops_y hH rfl rfl (yv_assign rfl) (ops_nil (thn_n (seq (seq ?_))))))
  by_cases hc1 : S.J l
  · skip
    have hj : S.J l := ‹_›
    have hc0 : S.check l 0 = 0 := S.check_iff.2 hj
    have hl1 := hj.1
    have hl10 := hj.2.1
    have hmo := emod_bd (a := o2) (b := (l.length : Int)) (by omega)
    have hex := S.ex2 hc0
    obtain ⟨hea, heb, hec⟩ := S.exs_all hj
    have hcy := hj.cyc_le
    refine region (ops_y hH rfl rfl (yv_move rfl) ?_)
    refine op_fnV rfl rfl rfl hH (c56 (h0.now hH (n := 0) rfl)) (fun w2 hH3 => ?_)
    refine ops_y hH3 rfl rfl (yv_castB (bnot_f (decide_eq_true hc1)) (yv_not rfl)) ?_
    refine ops_nil (thn_n ?_)
    refine cond_f rfl rfl ?_
    refine skip (thn_n (seq (region (ops_y hH3 rfl rfl (yv_move rfl) ?_))))
    refine op_fn rfl rfl rfl hH3 (c60 (h0.now hH3 (n := 0) rfl) (by omega)) (fun u6 w4 lo7 hi8 hH5 hv9 => ?_)
    have hH10 := Heap.toOw hH5 (n := 0) rfl
    refine ops_y hH10 rfl rfl (yv_assign rfl) (ops_nil (thn_n (seq (seq (region (ops_y hH10 rfl rfl (yv_assign rfl) (ops_nil (thn_n (block ?_)))))))))
    refine loop (S := Nat × List Int × Value × Nat × Nat) (fun (k, o, v_7, lo_7, hi_7) => [(8, (.int .i64 (k : Int))), (7, v_7), (0, v), (1, (.int .u16 o1)), (2, (.int .u8 o2)), (6, (.bool false))]) (fun (k, o, v_7, lo_7, hi_7) w1 => Heap [ow lo_7 hi_7 3 1 encI v_7 o, base w] w1 ∧ k ≤ l.length ∧ S.Sub l o) (fun (k, o, v_7, lo_7, hi_7) => l.length - k) (0, l, u6, lo7, hi8) (Sub.cons rfl (Sub.cons rfl (Sub.cons rfl (Sub.cons rfl (Sub.cons rfl (Sub.cons rfl (Sub.nil _))))))) ?_ ?_
    · exact ⟨hH10, by omega, S.Sub.start⟩
    · rintro ⟨k, o, v_7, lo_7, hi_7⟩ w11 ⟨hH12, hk2, hS⟩
      show Holds _ _ _ _ _ [(8, (.int .i64 (k : Int))), (7, v_7), (0, v), (1, (.int .u16 o1)), (2, (.int .u8 o2)), (6, (.bool false))] _ _
      have hol := hS.1
      refine seq (seq (region (ops_y hH12 rfl rfl (yv_move rfl) (ops_y hH12 rfl rfl (yv_move rfl) ?_))))
      refine ops_y hH12 rfl rfl (yv_len T.sl22 rfl (h0.now hH12 (n := 1) rfl).is) ?_
      refine ops_y hH12 rfl rfl (yv_lss rfl rfl) ?_
      refine ops_nil (thn_n ?_)
      by_cases hc13 : (k : Int) < (l.length : Int)
      · skip
        refine cond_t rfl (decide_eq_true hc13) ?_
        refine skip (thn_n (seq (block (seq (region (ops_y hH12 rfl rfl (yv_move rfl) (ops_y hH12 rfl rfl (yv_move rfl) ?_)))))))
        refine ops_y hH12 rfl rfl (yv_shr16 rfl rfl (by omega)) ?_
        refine ops_y hH12 rfl rfl (yv_and16 rfl rfl) ?_
        refine ops_y hH12 rfl rfl (yv_eql rfl rfl) ?_
        refine ops_nil (thn_n ?_)
        by_cases hc14 : (and16 (o1 / 2 ^ ((k : Int)).toNat)) = 0
        · skip
          have hoff : True := trivial
          refine cond_t rfl (decide_eq_true hc14) ?_
          refine region (ops_y hH12 rfl rfl (yv_move rfl) (ops_y hH12 rfl rfl (yv_move rfl) ?_))
          refine ops_y hH12 rfl rfl (yv_index T.sl22 rfl rfl (Heap.rdw T.el22_encI hH12 (n := 0) rfl).is (by omega)) ?_
          refine op_setE (n := 0) (i := (k : Int)) (k := 0) (us := [(.int .i64 (-1))]) (z := (-1)) T.el22_encI rfl rfl hH12 rfl (by omega) T.sz3 rfl rfl rfl (Nat.le_of_ble_eq_true rfl) (fun w15 hH16 => ?_)
          refine ops_nil (blk_n (thn_n (region (ops_y hH16 rfl rfl (yv_move rfl) ?_))))
          refine ops_y hH16 rfl rfl (yv_add rfl rfl (by omega)) ?_
          refine ops_y hH16 rfl rfl (yv_assign rfl) (ops_nil ?_)
          refine lp_n ((k + 1), (o.set ((k : Int)).toNat (-1)), v_7, lo_7, hi_7) (Sub.cons rfl (Sub.cons rfl (Sub.cons rfl (Sub.cons rfl (Sub.cons rfl (Sub.cons rfl (Sub.nil _))))))) ?_ ?_
          · exact ⟨(Heap.recast (n := 0) hH16 rfl (rfl)), by omega, hS.off (by omega)⟩
          · first | (dsimp only; omega) | (show _ < _; omega)
        · skip
          refine cond_f rfl (decide_eq_false hc14) ?_
          refine skip (blk_n (thn_n (region (ops_y hH12 rfl rfl (yv_move rfl) ?_))))
          refine ops_y hH12 rfl rfl (yv_add rfl rfl (by omega)) ?_
          refine ops_y hH12 rfl rfl (yv_assign rfl) (ops_nil ?_)
          refine lp_n ((k + 1), o, v_7, lo_7, hi_7) (Sub.cons rfl (Sub.cons rfl (Sub.cons rfl (Sub.cons rfl (Sub.cons rfl (Sub.cons rfl (Sub.nil _))))))) ?_ ?_
          · exact ⟨(Heap.recast (n := 0) hH12 rfl (rfl)), by omega, hS⟩
          · first | (dsimp only; omega) | (show _ < _; omega)
      · skip
        refine cond_f rfl (decide_eq_false hc13) ?_
        refine exit (thn_x (lp_x (blk_here (thn_n (seq (region (ops_y hH12 rfl rfl (yv_move rfl) ?_)))))))
        refine op_fn rfl rfl rfl hH12 (c60 (Heap.rdw T.el22_encI hH12 (n := 0) rfl) (by omega)) (fun u19 w17 lo20 hi21 hH18 hv22 => ?_)
        have hH23 := Heap.toOw hH18 (n := 0) rfl
        refine ops_y hH23 rfl rfl (yv_assign rfl) (ops_nil (thn_n (seq (region (ops_y hH23 rfl rfl (yv_move rfl) ?_)))))
        refine ops_y hH23 rfl rfl (yv_conv Try.underlying5 Try.underlying3 rfl (wrap_i64 (by omega))) ?_
        refine ops_y hH23 rfl rfl (yv_move rfl) ?_
        refine ops_y hH23 rfl rfl (yv_len T.sl22 rfl (h0.now hH23 (n := 2) rfl).is) ?_
        refine ops_y hH23 rfl rfl (yv_rem rfl rfl (by omega) (by omega)) ?_
        refine ops_y hH23 rfl rfl (yv_assign rfl) (ops_nil (thn_n (seq (region (ops_y hH23 rfl rfl (yv_move rfl) (ops_y hH23 rfl rfl (yv_move rfl) (ops_y hH23 rfl rfl (yv_move rfl) (ops_y hH23 rfl rfl (yv_move rfl) ?_))))))))
        refine ops_y hH23 rfl rfl (yv_index T.sl22 rfl rfl (h0.now hH23 (n := 2) rfl).is (by omega)) ?_
        refine ops_y hH23 rfl rfl (yv_load T.one3 rfl (fun _ hw => Rd.at (h0.now hw (n := 2) rfl) (i := o2 % (l.length : Int)) (by omega) (j := 0) rfl)) ?_
        refine ops_y hH23 rfl rfl (yv_index T.sl22 rfl rfl (Heap.rdw T.el22_encI hH23 (n := 0) rfl).is (by omega)) ?_
        refine op_setE (n := 0) (i := o2 % (l.length : Int)) (k := 0) (us := [(.int .i64 (nth l (o2 % (l.length : Int))))]) (z := nth l (o2 % (l.length : Int))) T.el22_encI rfl rfl hH23 rfl (by omega) T.sz3 rfl rfl rfl (Nat.le_of_ble_eq_true rfl) (fun w24 hH25 => ?_)
        refine ops_nil (thn_n (seq ?_))
        have hml : (o.set ((o2 % (l.length : Int))).toNat (nth l (o2 % (l.length : Int)))).length = l.length := (List.length_set).trans hol
        have hk := hS.rg hj
        have hM := (hS.on hmo.1 hmo.2).rg hj
        have hcr := S.check_iff.2 hk
        have hcm := S.check_iff.2 hM
        have hbe := S.br2 hcr
        have hsr := S.sr2 hcr
        have hsm := S.sr2 hcm
        have hct := S.cr2 hcr
        have hcu := S.cr2 hcm
        have hbl := S.best_length (k := o)
        have hbJ := S.best_J hk
        have hbf := S.best_fits (k := o)
        have hfs := S.fits_span hk hj hS.fits
        have hfm := S.fits_span hM hj (hS.on hmo.1 hmo.2).fits
        have hms := S.more_span hj hS hmo.1 hmo.2
        have hexb := S.ex2 (S.check_iff.2 hbJ)
        obtain ⟨hba, hbb, hbc⟩ := S.exs_all hbJ
        have hcyb := hbJ.cyc_le
        have hlo : S.spanLo o = (o.length : Int) - (S.cyc (S.best o) : Int) := rfl
        have hfp := S.fact_pos (S.ends (o.set ((o2 % (l.length : Int))).toNat (nth l (o2 % (l.length : Int))))).length
        have hfa := S.fact_mono hms.2.2
        refine region (ops_y hH25 rfl rfl (yv_move rfl) ?_)
        refine op_fn rfl rfl rfl hH25 ((by have h := c29 (h0.now hH25 (n := 2) rfl) (by omega); simp only [hex] at h; exact h)) (fun u28 w26 lo29 hi30 hH27 hv31 => ?_)
        obtain ⟨p33, hu, -⟩ := hv31
        subst hu
        have hH32 := Heap.tup2 hH27 (n := 0) rfl
        refine ops_y hH32 rfl rfl (yv_move rfl) (ops_y hH32 rfl rfl (yv_extract rfl rfl) (ops_y hH32 rfl rfl (yv_extract rfl rfl) (ops_y hH32 rfl rfl (yv_assign rfl) (ops_y hH32 rfl rfl (yv_assign rfl) (ops_nil (thn_n (seq (region (ops_y hH32 rfl rfl (yv_move rfl) ?_)))))))))
        refine op_fn rfl rfl rfl hH32 ((by have h := c48 (Heap.rdw T.el22_encI hH32 (n := 2) rfl) (by omega); simp only [hbe] at h; exact h)) (fun u36 w34 lo37 hi38 hH35 hv39 => ?_)
        obtain ⟨p41, hu, -⟩ := hv39
        subst hu
        have hH40 := Heap.tup2 hH35 (n := 0) rfl
        refine ops_y hH40 rfl rfl (yv_move rfl) (ops_y hH40 rfl rfl (yv_extract rfl rfl) (ops_y hH40 rfl rfl (yv_extract rfl rfl) (ops_y hH40 rfl rfl (yv_assign rfl) (ops_y hH40 rfl rfl (yv_assign rfl) (ops_nil (thn_n (seq (region (ops_y hH40 rfl rfl (yv_move rfl) ?_)))))))))
        refine op_fnV rfl rfl rfl hH40 ((by have h := c50 (Heap.rdw T.el22_encI hH40 (n := 3) rfl) (by omega); simp only [hsr] at h; exact h)) (fun w42 hH43 => ?_)
        refine ops_y hH43 rfl rfl (yv_move rfl) (ops_y hH43 rfl rfl (yv_extract rfl rfl) (ops_y hH43 rfl rfl (yv_extract rfl rfl) ?_))
        refine op_alloc (z := (.agg #[(.int .i64 0), (.int .i64 0)])) (us := [(.int .i64 0), (.int .i64 0)]) (fun _ => by kernel_rfl) rfl rfl hH43 (fun b44 w45 hH46 => ?_)
        refine op_store (n := 0) (j := 0) (us := [(.int .i64 (S.spanLo o)), (.int .i64 (S.spanHi o))]) rfl rfl hH46 rfl T.sz50 rfl rfl rfl (by rfl) (fun w47 hH48 => ?_)
        refine ops_y hH48 rfl rfl (yv_assign rfl) (ops_nil (thn_n (seq (region (ops_y hH48 rfl rfl (yv_move rfl) ?_)))))
        refine op_fnV rfl rfl rfl hH48 ((by have h := c50 (Heap.rdw T.el22_encI hH48 (n := 3) rfl) (by omega); simp only [hsm] at h; exact h)) (fun w49 hH50 => ?_)
        refine ops_y hH50 rfl rfl (yv_move rfl) (ops_y hH50 rfl rfl (yv_extract rfl rfl) (ops_y hH50 rfl rfl (yv_extract rfl rfl) ?_))
        refine op_alloc (z := (.agg #[(.int .i64 0), (.int .i64 0)])) (us := [(.int .i64 0), (.int .i64 0)]) (fun _ => by kernel_rfl) rfl rfl hH50 (fun b51 w52 hH53 => ?_)
        refine op_store (n := 0) (j := 0) (us := [(.int .i64 (S.spanLo (o.set ((o2 % (l.length : Int))).toNat (nth l (o2 % (l.length : Int)))))), (.int .i64 (S.spanHi (o.set ((o2 % (l.length : Int))).toNat (nth l (o2 % (l.length : Int))))))]) rfl rfl hH53 rfl T.sz50 rfl rfl rfl (by rfl) (fun w54 hH55 => ?_)
        refine ops_y hH55 rfl rfl (yv_assign rfl) (ops_nil (thn_n (seq (region (ops_y hH55 rfl rfl (yv_move rfl) ?_)))))
        refine op_fnV rfl rfl rfl hH55 ((by have h := c52 (Heap.rdw T.el22_encI hH55 (n := 5) rfl) (by omega); simp only [hct] at h; exact h)) (fun w56 hH57 => ?_)
        refine ops_y hH57 rfl rfl (yv_move rfl) (ops_y hH57 rfl rfl (yv_extract rfl rfl) (ops_y hH57 rfl rfl (yv_extract rfl rfl) (ops_y hH57 rfl rfl (yv_assign rfl) (ops_y hH57 rfl rfl (yv_assign rfl) (ops_nil (thn_n (seq (region (ops_y hH57 rfl rfl (yv_move rfl) ?_)))))))))
        refine op_fnV rfl rfl rfl hH57 ((by have h := c52 (Heap.rdw T.el22_encI hH57 (n := 4) rfl) (by omega); simp only [hcu] at h; exact h)) (fun w58 hH59 => ?_)
        refine ops_y hH59 rfl rfl (yv_move rfl) (ops_y hH59 rfl rfl (yv_extract rfl rfl) (ops_y hH59 rfl rfl (yv_extract rfl rfl) (ops_y hH59 rfl rfl (yv_assign rfl) (ops_y hH59 rfl rfl (yv_assign rfl) (ops_nil (thn_n (seq (seq (region ?_)))))))))
        refine ops_y hH59 rfl rfl (yv_move rfl) ?_
        refine ops_y hH59 rfl rfl (yv_castB rfl (yv_neq rfl rfl)) ?_
        refine ops_y hH59 rfl rfl (yv_move rfl) (guard_yes rfl rfl rfl (ops_y hH59 rfl rfl (yv_move rfl) (guard_yes rfl rfl rfl ?_)))
        refine ops_y hH59 rfl rfl (yv_castB rfl (yv_neq rfl rfl)) ?_
        refine ops_y hH59 rfl rfl (yv_pick_f rfl rfl rfl) ?_
        refine ops_y hH59 rfl rfl (yv_move rfl) (guard_yes rfl rfl rfl (ops_y hH59 rfl rfl (yv_move rfl) (guard_yes rfl rfl rfl ?_)))
        refine ops_y hH59 rfl rfl (yv_castB rfl (yv_neq rfl rfl)) ?_
        refine ops_y hH59 rfl rfl (yv_pick_f rfl rfl rfl) ?_
        refine ops_y hH59 rfl rfl (yv_move rfl) (guard_yes rfl rfl rfl (ops_y hH59 rfl rfl (yv_move rfl) (guard_yes rfl rfl rfl ?_)))
        refine ops_y hH59 rfl rfl (yv_castB rfl (yv_neq rfl rfl)) ?_
        refine ops_y hH59 rfl rfl (yv_pick_f rfl rfl rfl) ?_
        refine ops_y hH59 rfl rfl (yv_move rfl) (guard_yes rfl rfl rfl (ops_y hH59 rfl rfl (yv_move rfl) (guard_yes rfl rfl rfl ?_)))
        refine ops_y hH59 rfl rfl (yv_castB rfl (yv_neq rfl rfl)) ?_
        refine ops_y hH59 rfl rfl (yv_pick_f rfl rfl rfl) ?_
        refine ops_y hH59 rfl rfl (yv_move rfl) (guard_yes rfl rfl rfl (ops_y hH59 rfl rfl (yv_move rfl) (guard_yes rfl rfl rfl ?_)))
        refine ops_y hH59 rfl rfl (yv_castB rfl (yv_neq rfl rfl)) ?_
        refine ops_y hH59 rfl rfl (yv_pick_f rfl rfl rfl) ?_
        refine ops_y hH59 rfl rfl (yv_move rfl) (guard_yes rfl rfl rfl (ops_y hH59 rfl rfl (yv_move rfl) (guard_yes rfl rfl rfl ?_)))
        refine op_fnV rfl rfl rfl hH59 (c56 (Heap.rdw T.el22_encI hH59 (n := 2) rfl)) (fun w60 hH61 => ?_)
        refine guard_yes rfl rfl rfl ?_
        refine ops_y hH61 rfl rfl (yv_not rfl) ?_
        refine ops_y hH61 rfl rfl (yv_pick_f rfl rfl rfl) ?_
        refine ops_y hH61 rfl rfl (yv_move rfl) ?_
        have hc62 : ¬ (¬ (S.J (S.best o))) := fun h => h hbJ
        refine guard_yes rfl rfl (not_decide_f hc62) ?_
        refine ops_y hH61 rfl rfl (yv_move rfl) ?_
        refine guard_yes rfl rfl (not_decide_f hc62) ?_
        refine ops_y hH61 rfl rfl (yv_move rfl) ?_
        refine guard_yes rfl rfl (not_decide_f hc62) ?_
        refine op_fnV rfl rfl rfl hH61 (c66 (Heap.rdw T.el22_encI hH61 (n := 2) rfl) (Heap.rdw T.el22_encI hH61 (n := 5) rfl) (by omega) (by omega)) (fun w63 hH64 => ?_)
        refine guard_yes rfl rfl (not_decide_f hc62) ?_
        refine ops_y hH64 rfl rfl (yv_not rfl) ?_
        refine ops_y hH64 rfl rfl (yv_pick_f rfl (not_decide_f hc62) rfl) ?_
        refine ops_nil (thn_n ?_)
        have hc65 : ¬ (¬ (S.Fits (S.best o) o)) := fun h => h hbf
        refine cond_f rfl (not_decide_f hc65) ?_
        refine skip (thn_n (seq (region (ops_y hH64 rfl rfl (yv_move rfl) ?_))))
        refine op_fn rfl rfl rfl hH64 ((by have h := c29 (Heap.rdw T.el22_encI hH64 (n := 2) rfl) (by omega); simp only [hexb] at h; exact h)) (fun u68 w66 lo69 hi70 hH67 hv71 => ?_)
        obtain ⟨p73, hu, -⟩ := hv71
        subst hu
        have hH72 := Heap.tup2 hH67 (n := 0) rfl
        refine ops_y hH72 rfl rfl (yv_move rfl) (ops_y hH72 rfl rfl (yv_extract rfl rfl) (ops_y hH72 rfl rfl (yv_extract rfl rfl) (ops_y hH72 rfl rfl (yv_assign rfl) (ops_y hH72 rfl rfl (yv_assign rfl) (ops_nil (thn_n (seq (region (ops_y hH72 rfl rfl (yv_move rfl) ?_)))))))))
        refine ops_y hH72 rfl rfl (yv_len T.sl29 rfl (Heap.rdw T.el29_encP hH72 (n := 4) rfl).is) ?_
        refine ops_y hH72 rfl rfl (yv_assign rfl) (ops_nil (thn_n (seq (region (ops_y hH72 rfl rfl (yv_move rfl) ?_)))))
        refine ops_y hH72 rfl rfl (yv_castB rfl (yv_eql rfl rfl)) ?_
        refine ops_y hH72 rfl rfl (yv_move rfl) (guard_yes rfl rfl rfl (ops_y hH72 rfl rfl (yv_move rfl) (guard_yes rfl rfl rfl ?_)))
        refine ops_y hH72 rfl rfl (yv_len T.sl29 rfl (Heap.rdw T.el29_encP hH72 (n := 0) rfl).is) ?_
        refine guard_yes rfl rfl rfl ?_
        refine ops_y hH72 rfl rfl (yv_field T.f50_0 rfl) ?_
        refine guard_yes rfl rfl rfl ?_
        refine ops_y hH72 rfl rfl (yv_load T.one2 rfl (fun _ hw => Heap.cellw hw (n := 2) rfl rfl)) ?_
        refine guard_yes rfl rfl rfl ?_
        refine ops_y hH72 rfl rfl (yv_eql rfl rfl) ?_
        refine ops_y hH72 rfl rfl (yv_pick_t rfl rfl rfl) ?_
        refine ops_y hH72 rfl rfl (yv_move rfl) ?_
        have hc74 : ((S.exs (S.best o)).length : Int) = (S.spanLo o) := by omega
        refine guard_yes rfl rfl (decide_eq_true hc74) ?_
        refine ops_y hH72 rfl rfl (yv_move rfl) ?_
        refine guard_yes rfl rfl (decide_eq_true hc74) ?_
        refine ops_y hH72 rfl rfl (yv_field T.f50_0 rfl) ?_
        refine guard_yes rfl rfl (decide_eq_true hc74) ?_
        refine ops_y hH72 rfl rfl (yv_load T.one2 rfl (fun _ hw => Heap.cellw hw (n := 2) rfl rfl)) ?_
        refine guard_yes rfl rfl (decide_eq_true hc74) ?_
        refine ops_y hH72 rfl rfl (yv_geq rfl rfl) ?_
        refine ops_y hH72 rfl rfl (yv_pick_t rfl (decide_eq_true hc74) rfl) ?_
        refine ops_y hH72 rfl rfl (yv_move rfl) ?_
        have hc75 : (S.spanLo o) ≤ ((S.exs l).length : Int) := by omega
        refine guard_yes rfl rfl (decide_eq_true hc75) ?_
        refine ops_y hH72 rfl rfl (yv_move rfl) ?_
        refine guard_yes rfl rfl (decide_eq_true hc75) ?_
        refine ops_y hH72 rfl rfl (yv_field T.f50_1 rfl) ?_
        refine guard_yes rfl rfl (decide_eq_true hc75) ?_
        refine ops_y hH72 rfl rfl (yv_load T.one2 rfl (fun _ hw => Heap.cellw hw (n := 2) rfl rfl)) ?_
        refine guard_yes rfl rfl (decide_eq_true hc75) ?_
        refine ops_y hH72 rfl rfl (yv_leq rfl rfl) ?_
        refine ops_y hH72 rfl rfl (yv_pick_t rfl (decide_eq_true hc75) rfl) ?_
        refine ops_y hH72 rfl rfl (yv_move rfl) ?_
        have hc76 : ((S.exs l).length : Int) ≤ (S.spanHi o) := by omega
        refine guard_yes rfl rfl (decide_eq_true hc76) ?_
        refine ops_y hH72 rfl rfl (yv_field T.f50_0 rfl) ?_
        refine guard_yes rfl rfl (decide_eq_true hc76) ?_
        refine ops_y hH72 rfl rfl (yv_load T.one2 rfl (fun _ hw => Heap.cellw hw (n := 1) rfl rfl)) ?_
        refine guard_yes rfl rfl (decide_eq_true hc76) ?_
        refine ops_y hH72 rfl rfl (yv_field T.f50_0 rfl) ?_
        refine guard_yes rfl rfl (decide_eq_true hc76) ?_
        refine ops_y hH72 rfl rfl (yv_load T.one2 rfl (fun _ hw => Heap.cellw hw (n := 2) rfl rfl)) ?_
        refine guard_yes rfl rfl (decide_eq_true hc76) ?_
        refine ops_y hH72 rfl rfl (yv_geq rfl rfl) ?_
        refine ops_y hH72 rfl rfl (yv_pick_t rfl (decide_eq_true hc76) rfl) ?_
        refine ops_y hH72 rfl rfl (yv_move rfl) ?_
        have hc77 : (S.spanLo o) ≤ (S.spanLo (o.set ((o2 % (l.length : Int))).toNat (nth l (o2 % (l.length : Int))))) := by omega
        refine guard_yes rfl rfl (decide_eq_true hc77) ?_
        refine ops_y hH72 rfl rfl (yv_field T.f50_1 rfl) ?_
        refine guard_yes rfl rfl (decide_eq_true hc77) ?_
        refine ops_y hH72 rfl rfl (yv_load T.one2 rfl (fun _ hw => Heap.cellw hw (n := 1) rfl rfl)) ?_
        refine guard_yes rfl rfl (decide_eq_true hc77) ?_
        refine ops_y hH72 rfl rfl (yv_field T.f50_1 rfl) ?_
        refine guard_yes rfl rfl (decide_eq_true hc77) ?_
        refine ops_y hH72 rfl rfl (yv_load T.one2 rfl (fun _ hw => Heap.cellw hw (n := 2) rfl rfl)) ?_
        refine guard_yes rfl rfl (decide_eq_true hc77) ?_
        refine ops_y hH72 rfl rfl (yv_leq rfl rfl) ?_
        refine ops_y hH72 rfl rfl (yv_pick_t rfl (decide_eq_true hc77) rfl) ?_
        refine ops_y hH72 rfl rfl (yv_move rfl) ?_
        have hc78 : (S.spanHi (o.set ((o2 % (l.length : Int))).toNat (nth l (o2 % (l.length : Int))))) ≤ (S.spanHi o) := by omega
        refine guard_yes rfl rfl (decide_eq_true hc78) ?_
        refine ops_y hH72 rfl rfl (yv_move rfl) ?_
        refine guard_yes rfl rfl (decide_eq_true hc78) ?_
        refine ops_y hH72 rfl rfl (yv_field T.f50_0 rfl) ?_
        refine guard_yes rfl rfl (decide_eq_true hc78) ?_
        refine ops_y hH72 rfl rfl (yv_load T.one2 rfl (fun _ hw => Heap.cellw hw (n := 1) rfl rfl)) ?_
        refine guard_yes rfl rfl (decide_eq_true hc78) ?_
        refine ops_y hH72 rfl rfl (yv_geq rfl rfl) ?_
        refine ops_y hH72 rfl rfl (yv_pick_t rfl (decide_eq_true hc78) rfl) ?_
        refine ops_y hH72 rfl rfl (yv_move rfl) ?_
        have hc79 : (S.spanLo (o.set ((o2 % (l.length : Int))).toNat (nth l (o2 % (l.length : Int))))) ≤ ((S.exs l).length : Int) := by omega
        refine guard_yes rfl rfl (decide_eq_true hc79) ?_
        refine ops_y hH72 rfl rfl (yv_move rfl) ?_
        refine guard_yes rfl rfl (decide_eq_true hc79) ?_
        refine ops_y hH72 rfl rfl (yv_field T.f50_1 rfl) ?_
        refine guard_yes rfl rfl (decide_eq_true hc79) ?_
        refine ops_y hH72 rfl rfl (yv_load T.one2 rfl (fun _ hw => Heap.cellw hw (n := 1) rfl rfl)) ?_
        refine guard_yes rfl rfl (decide_eq_true hc79) ?_
        refine ops_y hH72 rfl rfl (yv_leq rfl rfl) ?_
        refine ops_y hH72 rfl rfl (yv_pick_t rfl (decide_eq_true hc79) rfl) ?_
        refine ops_y hH72 rfl rfl (yv_move rfl) ?_
        have hc80 : ((S.exs l).length : Int) ≤ (S.spanHi (o.set ((o2 % (l.length : Int))).toNat (nth l (o2 % (l.length : Int))))) := by omega
        refine guard_yes rfl rfl (decide_eq_true hc80) ?_
        refine ops_y hH72 rfl rfl (yv_move rfl) ?_
        refine guard_yes rfl rfl (decide_eq_true hc80) ?_
        refine ops_y hH72 rfl rfl (yv_geq rfl rfl) ?_
        refine ops_y hH72 rfl rfl (yv_pick_t rfl (decide_eq_true hc80) rfl) ?_
        refine ops_y hH72 rfl rfl (yv_move rfl) ?_
        have hc81 : 1 ≤ (S.fact (S.ends (o.set ((o2 % (l.length : Int))).toNat (nth l (o2 % (l.length : Int))))).length : Int) := by omega
        refine guard_yes rfl rfl (decide_eq_true hc81) ?_
        refine ops_y hH72 rfl rfl (yv_move rfl) ?_
        refine guard_yes rfl rfl (decide_eq_true hc81) ?_
        refine ops_y hH72 rfl rfl (yv_move rfl) ?_
        refine guard_yes rfl rfl (decide_eq_true hc81) ?_
        refine ops_y hH72 rfl rfl (yv_leq rfl rfl) ?_
        refine ops_y hH72 rfl rfl (yv_pick_t rfl (decide_eq_true hc81) rfl) ?_
        refine ops_y hH72 rfl rfl (yv_move rfl) ?_
        have hc82 : (S.fact (S.ends (o.set ((o2 % (l.length : Int))).toNat (nth l (o2 % (l.length : Int))))).length : Int) ≤ (S.fact (S.ends o).length : Int) := by omega
        refine guard_yes rfl rfl (decide_eq_true hc82) ?_
        refine ops_y hH72 rfl rfl (yv_move rfl) ?_
        refine guard_yes rfl rfl (decide_eq_true hc82) ?_
        refine ops_y hH72 rfl rfl (yv_gtr rfl rfl) ?_
        refine guard_yes rfl rfl (decide_eq_true hc82) ?_
        refine ops_y hH72 rfl rfl (yv_move rfl) ?_
        by_cases hc83 : 1 < (S.fact (S.ends o).length : Int)
        · skip
          refine guard_no rfl rfl (decide_eq_true hc83) rfl ?_
          refine guard_no rfl rfl (decide_eq_true hc83) rfl ?_
          refine guard_no rfl rfl (decide_eq_true hc83) rfl ?_
          refine guard_yes rfl rfl (decide_eq_true hc82) ?_
          refine ops_y hH72 rfl rfl (yv_pick_t rfl (decide_eq_true hc83) rfl) ?_
          refine ops_y hH72 rfl rfl (yv_pick_t rfl (decide_eq_true hc82) rfl) ?_
          refine ops_y hH72 rfl rfl (yv_move rfl) (guard_yes rfl rfl rfl ?_)
          refine op_fnV rfl rfl rfl hH72 (c18) (fun w84 hH85 => ?_)
          refine ops_y hH85 rfl rfl (yv_pick_t rfl rfl rfl) ?_
          refine ops_y hH85 rfl rfl (yv_assign rfl) (ops_nil (thn_n (ret ?_)))
          have hH86 := (hH85.sub (List.Sublist.cons _ (List.Sublist.cons _ (List.Sublist.cons _ (List.Sublist.cons _ (List.Sublist.cons _ (List.Sublist.cons _ (List.Sublist.cons _ (List.Sublist.refl _)))))))))
          refine fin hH86 (fun w' hf => (res1 rfl (show RV _ _ _ (.tmp 6) _ from rfl))) (fun w' hf => ?_)
          rfl
        · skip
          have hbo : S.best o = l := S.best_only hk hj hS.fits (fact_one (by assumption))
          refine guard_yes rfl rfl (decide_eq_false hc83) ?_
          refine ops_y hH72 rfl rfl (yv_move rfl) ?_
          refine guard_yes rfl rfl (decide_eq_false hc83) ?_
          refine ops_y hH72 rfl rfl (yv_move rfl) ?_
          refine guard_yes rfl rfl (decide_eq_false hc83) ?_
          refine op_fnV rfl rfl rfl hH72 (c33 (Heap.rdw T.el22_encI hH72 (n := 3) rfl) (h0.now hH72 (n := 7) rfl) (by omega) (by omega)) (fun w87 hH88 => ?_)
          refine guard_yes rfl rfl (decide_eq_true hc82) ?_
          refine ops_y hH88 rfl rfl (yv_pick_f rfl (decide_eq_false hc83) rfl) ?_
          refine ops_y hH88 rfl rfl (yv_pick_t rfl (decide_eq_true hc82) rfl) ?_
          refine ops_y hH88 rfl rfl (yv_move rfl) ?_
          have hc89 : (S.best o) = l := hbo
          refine guard_yes rfl rfl (decide_eq_true hc89) ?_
          refine op_fnV rfl rfl rfl hH88 (c18) (fun w90 hH91 => ?_)
          refine ops_y hH91 rfl rfl (yv_pick_t rfl (decide_eq_true hc89) rfl) ?_
          refine ops_y hH91 rfl rfl (yv_assign rfl) (ops_nil (thn_n (ret ?_)))
          have hH92 := (hH91.sub (List.Sublist.cons _ (List.Sublist.cons _ (List.Sublist.cons _ (List.Sublist.cons _ (List.Sublist.cons _ (List.Sublist.cons _ (List.Sublist.cons _ (List.Sublist.refl _)))))))))
          refine fin hH92 (fun w' hf => (res1 rfl (show RV _ _ _ (.tmp 6) _ from rfl))) (fun w' hf => ?_)
          rfl
  · skip
    have hnj : ¬ S.J l := ‹_›
    refine region (ops_y hH rfl rfl (yv_move rfl) ?_)
    refine op_fnV rfl rfl rfl hH (c56 (h0.now hH (n := 0) rfl)) (fun w93 hH94 => ?_)
    refine ops_y hH94 rfl rfl (yv_castB (bnot_t (decide_eq_false hc1)) (yv_not rfl)) ?_
    refine ops_nil (thn_n ?_)
    refine cond_t rfl rfl ?_
    refine seq (region ?_)
    refine op_fnV rfl rfl rfl hH94 (c18) (fun w95 hH96 => ?_)
    refine ops_y hH96 rfl rfl (yv_assign rfl) (ops_nil (thn_n (ret (thn_r ?_))))
    refine fin hH96 (fun w' hf => (res1 rfl (show RV _ _ _ (.tmp 6) _ from rfl))) (fun w' hf => ?_)
    rfl

end Go.Fip
