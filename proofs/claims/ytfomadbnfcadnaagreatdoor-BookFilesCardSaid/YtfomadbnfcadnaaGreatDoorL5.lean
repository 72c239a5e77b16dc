/- Walks of the law, and what it alone needs, by program (wip/tools). -/
import Derived.Test.YtfomadbnfcadnaaGreatDoorMJ
set_option linter.unusedVariables false
set_option linter.unusedSimpArgs false
set_option linter.unusedSectionVars false
set_option linter.unnecessarySimpa false
namespace Go.Fip
theorem take_snoc {α : Type} [Inhabited α] {l : List α} {i : Nat} (h : i < l.length) : l.take i ++ [nth l (i : Int)] = l.take (i + 1) := by
  rw [List.take_succ_eq_append_getElem h, nth_nat h]
end Go.Fip
namespace Go.Fip
open Go.RowKit
section kinds
variable {P : Program} {N : Nat} {ds : List Deferred} {env : Env} {S : World → Prop} {x y : Operand} {k : IntKind} {m n : Int} {T T' : TypeId}
theorem yv_addK (hx : ev env x = some (.int k m)) (hy : ev env y = some (.int k n)) (hw : k.wrap (m + n) = m + n) : Yv P N ds env (.binOp .add T x y T') (.int k (m + n)) S := fun a ha w _ _ _ _ _ _ => by
  simp [execOp, ha.ev hx, ha.ev hy, eqGuard, binOp, Op.intArith, hw, Result.andThen]
theorem yv_mulK (hx : ev env x = some (.int k m)) (hy : ev env y = some (.int k n)) (hw : k.wrap (m * n) = m * n) : Yv P N ds env (.binOp .mul T x y T') (.int k (m * n)) S := fun a ha w _ _ _ _ _ _ => by
  simp [execOp, ha.ev hx, ha.ev hy, eqGuard, binOp, Op.intArith, hw, Result.andThen]
end kinds
end Go.Fip
namespace Go.Fip
open Go.RowKit
section
variable {P : Program} {N : Nat} {ds : List Deferred} {env : Env} {S : World → Prop} {x y z : Operand} {T T' : TypeId} {a b : List UInt8}
theorem yv_subS_hi {k : IntKind} {h : Int} (hT : P.underlying T = some .string) (hx : ev env x = some (str a)) (hz : ev env z = some (.int k h)) (hb : 0 ≤ h ∧ h ≤ (a.length : Int)) : Yv P N ds env (.slice T x none (some z) none) (str (a.take h.toNat)) S := fun act hact w _ _ _ _ _ _ => by
  have e1 := run_bound (P := P) (w := w) (k := k) (i := h) (n := a.length) (code := .sliceAlen) hb.1 hb.2
  have e3 : (⟨a.toArray⟩ : ByteArray).extract 0 h.toNat = ⟨(a.take h.toNat).toArray⟩ := by
    rw [Go.Lib.extract_eq]
    show (⟨((a.drop 0).take (h.toNat - 0)).toArray⟩ : ByteArray) = _
    rw [List.drop_zero, Nat.sub_zero]
  simp [execOp, hact.ev hx, hact.ev hz, str, Instr.sliceAt, Instr.slice, Instr.sliceBounds, run_underlying hT, size_str, e1, e3, Result.andThen]
end
end Go.Fip
namespace Go.Fip
open Go.ChangeShapes Go.WideShapes Go.ChangeAt Go.RowKit
section
variable {H : Type} {enc : TypeId × Value → H} {P : Program} {w : World}
theorem trodAll_below (hl : laidOutB P = true) {W W' : World} (hb : Below W.heap.size W W') : ∀ (ts : List TypeId) (vs : List Value) (ds : List (DataW H)) (ps : List MemPlace), (ts.all fun t => P.readableRec t && decide (t < P.types.size)) = true →
    DataW.TrodAll enc P W 0 (fun _ => true) true ts vs ds ps → (∀ x ∈ ps, x.block < W.heap.size) → DataW.TrodAll enc P W' 0 (fun b => decide (b < W.heap.size)) true ts vs ds ps
  | [], vs, ds, ps, _, h, _ => by
    obtain ⟨rfl, rfl, rfl⟩ := trodAll_nil h
    rfl
  | t :: ts, vs, ds, ps, hr, h, hlt => by
    obtain ⟨v, vs, d, ds, p, q, rfl, rfl, rfl, h1, h2⟩ := trodAll_cons h
    simp only [List.all_cons, Bool.and_eq_true, decide_eq_true_eq] at hr
    exact ⟨p, q, Below.trod hl hr.1.1 hr.1.2 h1 hb (fun x hx => hlt x (List.mem_append_left _ hx)), trodAll_below hl hb ts vs ds q (by simpa using hr.2) h2 (fun x hx => hlt x (List.mem_append_right _ hx)), rfl⟩
theorem law_post {f : Func} {s : ChangeSpec} {apart fresh : Bool} {W W' : World} {args : Array Value} {ds : List (DataW H)} {before p : List MemPlace} {tb : TypeId} (hl : laidOutB P = true) (hb : Below W.heap.size W W')
    (hr : (f.params.toList.all fun t => P.readableRec t && decide (t < P.types.size)) = true) (hv : s.vars = []) (hW : DataW.Whole enc P f.params.toList s.vars apart W args.toList ds [] before)
    (hA : DataW.TrodAll enc P W 0 (fun _ => true) true f.params.toList args.toList ds p) (hp : before = p) (hrt : f.resultTypes = #[tb]) (htb : P.underlying tb = some .bool) (hs : s.fn H (ds ++ []) = { results := [.lit (.bool true)], args := ds }) :
    s.post enc P f apart fresh false false W args (.bool true) W' := by
  subst hp
  refine ⟨ds, [], before, [], before, [], hW, ?_, ?_, ?_, Below.frame hb _, fun h => by cases h⟩
  · rw [hs, hrt]; exact trodAll_mk1 (shut_bool htb _)
  · rw [hs]; exact trodAll_below hl hb _ _ _ _ hr hA (fun x hx => by simpa using hW.lt x hx)
  · rw [hs, hv]; rfl
end
end Go.Fip
namespace Go.Fip
open Go.Proofs
namespace T
theorem sz9 : (Tryz.prog.info? 9).map (·.size) = some 1 := by kernel_rfl
theorem arr165 : TArr Tryz.prog 165 5 2 1 := ⟨by kernel_rfl, by kernel_rfl⟩
end T
end Go.Fip
namespace Go.Fip
open Go.Proofs Go.RowKit
theorem c39 {v : Value} {l : List En} {w : World} (h0 : Rd encE 5 v l w) (hn : l.length ≤ 1000000)  :
  Fn Tryz.prog 39 [(.agg #[v])].toArray w (fun u _ => u = .tuple #[str (B.fileR l).1, .int .i64 (B.fileR l).2]) := by
 refine fn_of' (args := [(.agg #[v])]) Tryz.func39 rfl (ent Tryz.func39 (by kernel_rfl) rfl) rfl rfl (fun hH => ?_)
 refine seq (region ?_)
 refine op_box (us := [v]) rfl rfl rfl hH (fun b1 w2 hH3 => ?_)
 refine ops_y hH3 rfl rfl (yv_assign rfl) (ops_y hH3 rfl rfl (yv_assign rfl) (ops_nil (thn_n (seq (seq ?_)))))
 by_cases hc4 : B.ck l = 0
 ·skip
  have hc0 : B.ck l = 0 := ‹_›
  have hbk := B.ck_iff.1 hc0
  have hin0 := hbk.2.1
  have hl24 := hbk.1
  refine region ?_
  refine ops_y hH3 rfl rfl (yv_loadA (cs := [v]) T.agg24 rfl rfl (fun _ hw => Heap.cellsw hw (n := 0) rfl (k := 0) rfl)) ?_
  refine op_fnV rfl rfl rfl hH3 (c22 (h0.now hH3 (n := 1) rfl) (by omega)) (fun w5 hH6 => ?_)
  refine ops_y hH6 rfl rfl (yv_neq rfl rfl) ?_
  refine ops_nil (thn_n ?_)
  have hc7 : ¬ (¬ ((B.ck l) = 0)) := fun h => h hc0
  refine cond_f rfl (not_decide_f hc7) ?_
  refine skip (thn_n (seq (region ?_)))
  refine ops_y hH6 rfl rfl (yv_loadA (cs := [v]) T.agg24 rfl rfl (fun _ hw => Heap.cellsw hw (n := 0) rfl (k := 0) rfl)) ?_
  refine op_fnV rfl rfl rfl hH6 (c51 (h0.now hH6 (n := 1) rfl) hl24 hin0) (fun w8 hH9 => ?_)
  refine ops_y hH9 rfl rfl (yv_assign rfl) (ops_y hH9 rfl rfl (yv_assign rfl) (ops_nil (thn_n (ret ?_))))
  have hH10 := (hH9.sub (List.Sublist.cons _ (List.Sublist.refl _)))
  refine fin hH10 (fun w' hf => (res2 rfl (show RV _ _ _ (.tmp 2) _ from rfl) (show RV _ _ _ (.tmp 3) _ from rfl))) (fun w' hf => ?_)
  first | exact tupS (B.fileR_b hcn) | exact tupS (B.fileR_ok hc0)
 ·skip
  have hcn : ¬ B.ck l = 0 := ‹_›
  refine region ?_
  refine ops_y hH3 rfl rfl (yv_loadA (cs := [v]) T.agg24 rfl rfl (fun _ hw => Heap.cellsw hw (n := 0) rfl (k := 0) rfl)) ?_
  refine op_fnV rfl rfl rfl hH3 (c22 (h0.now hH3 (n := 1) rfl) (by omega)) (fun w11 hH12 => ?_)
  refine ops_y hH12 rfl rfl (yv_neq rfl rfl) ?_
  refine ops_nil (thn_n ?_)
  have hc13 : ¬ ((B.ck l) = 0) := hcn
  refine cond_t rfl (not_decide_t hc13) ?_
  refine seq (region ?_)
  refine ops_y hH12 rfl rfl (yv_loadA (cs := [v]) T.agg24 rfl rfl (fun _ hw => Heap.cellsw hw (n := 0) rfl (k := 0) rfl)) ?_
  refine op_fnV rfl rfl rfl hH12 (c22 (h0.now hH12 (n := 1) rfl) (by omega)) (fun w14 hH15 => ?_)
  refine ops_y hH15 rfl rfl (yv_assign rfl) (ops_y hH15 rfl rfl (yv_assign rfl) (ops_nil (thn_n (ret (thn_r ?_)))))
  have hH16 := (hH15.sub (List.Sublist.cons _ (List.Sublist.refl _)))
  refine fin hH16 (fun w' hf => (res2 rfl (show RV _ _ _ (.tmp 2) _ from rfl) (show RV _ _ _ (.tmp 3) _ from rfl))) (fun w' hf => ?_)
  first | exact tupS (B.fileR_b hcn) | exact tupS (B.fileR_ok hc0)
end Go.Fip
namespace Go.Fip.B
open Go.Fip
theorem sp_snoc_eq (c : UInt8) : ∀ l : List UInt8, sp c (l ++ [c]) = sp c l ++ [[]]
  | [] => by simp [sp]
  | x :: l => by
    have ih := sp_snoc_eq c l
    show sp c (x :: (l ++ [c])) = _
    unfold sp
    rw [ih]
    split
    · rfl
    · have hh := sp_head c l
      rw [← hh]; rfl
theorem nth_sc {α : Type} [Inhabited α] {a : α} {l : List α} {k : Nat} : nth (a :: l) ((k + 1 : Nat) : Int) = nth l (k : Int) := by unfold nth; simp
theorem sp_snoc_ne (c x : UInt8) (hx : ¬ x = c) : ∀ l : List UInt8, sp c (l ++ [x]) = (sp c l).set ((sp c l).length - 1) (nth (sp c l) (((sp c l).length - 1 : Nat) : Int) ++ [x])
  | [] => by simp [sp, hx, nth]
  | y :: l => by
    have ih := sp_snoc_ne c x hx l
    have hh := sp_head c l
    have hp := sp_len_pos c l
    show sp c (y :: (l ++ [x])) = _
    unfold sp
    rw [ih]
    generalize sp c l = s at *
    obtain ⟨p, ps, rfl⟩ : ∃ p ps, s = p :: ps := ⟨_, _, hh.symm⟩
    split
    · show [] :: (p :: ps).set ((p :: ps).length - 1) _ = ([] :: p :: ps).set (([] :: p :: ps).length - 1) _
      have e2 : ([] :: p :: ps : List (List UInt8)).length - 1 = ps.length + 1 := by simp
      have e3 : (p :: ps).length - 1 = ps.length := by simp
      rw [e2, e3, nth_sc]; rfl
    · cases ps with
      | nil => rfl
      | cons q qs =>
        have e1 : (p :: q :: qs).length - 1 = qs.length + 1 := by simp
        have e2 : ((y :: p) :: q :: qs).length - 1 = qs.length + 1 := by simp
        show (y :: ((p :: q :: qs).set ((p :: q :: qs).length - 1) (nth (p :: q :: qs) (((p :: q :: qs).length - 1 : Nat) : Int) ++ [x])).headD []) :: ((p :: q :: qs).set ((p :: q :: qs).length - 1) (nth (p :: q :: qs) (((p :: q :: qs).length - 1 : Nat) : Int) ++ [x])).tail = ((y :: p) :: q :: qs).set (((y :: p) :: q :: qs).length - 1) (nth ((y :: p) :: q :: qs) ((((y :: p) :: q :: qs).length - 1 : Nat) : Int) ++ [x])
        rw [e1, e2, nth_sc, nth_sc]; rfl
def sumQ (l : List UInt8) : Int × Bool := if Hx l then ((hexV (l.drop 4) : Int), true) else (0, false)
theorem sumQ_t {l : List UInt8} (h : Hx l) : sumQ l = ((hexV (l.drop 4) : Int), true) := if_pos h
theorem sumQ_f {l : List UInt8} (h : ¬ Hx l) : sumQ l = (0, false) := if_neg h
end Go.Fip.B
namespace Go.Fip
open Go.Proofs Go.RowKit
theorem B.isD_iff {l : List UInt8} : (∀ b ∈ l, B.isD b) ↔ ∀ k : Nat, k < l.length → 48 ≤ byteAt l (k : Int) ∧ byteAt l (k : Int) ≤ 57 := by
 constructor
 ·intro h k hk
  have := h _ (List.getElem_mem hk)
  unfold B.isD at this
  rw [B.byteAt_nat hk]; omega
 ·intro h b hb
  obtain ⟨k, hk, rfl⟩ := List.getElem_of_mem hb
  have := h k hk
  rw [B.byteAt_nat hk] at this
  unfold B.isD; omega
theorem B.val_tk {l : List UInt8} {k : Nat} (h : k < l.length) (hd : 48 ≤ byteAt l (k : Int)) : (B.val (l.take (k + 1)) : Int) = 10 * (B.val (l.take k) : Int) + (byteAt l (k : Int) - 48) := by
 rw [B.byteAt_nat h] at hd ⊢
 rw [List.take_succ_eq_append_getElem h, B.val_snoc]
 omega
theorem B.val_bd {l : List UInt8} {k : Nat} (h : k < l.length) (hl : l.length ≤ 18) (hall : ∀ i : Nat, i < k → 48 ≤ byteAt l (i : Int) ∧ byteAt l (i : Int) ≤ 57) : (B.val (l.take k) : Int) ≤ 99999999999999999 := by
 have h1 : ∀ b ∈ l.take k, B.isD b := by
  intro b hb
  obtain ⟨i, hi, rfl⟩ := List.getElem_of_mem hb
  rw [List.length_take] at hi
  have := hall i (by omega)
  rw [B.byteAt_nat (by omega)] at this
  rw [List.getElem_take]
  unfold B.isD; omega
 have h2 := B.val_lt _ h1
 have h3 : (10 : Nat) ^ (l.take k).length ≤ 10 ^ 17 := Nat.pow_le_pow_right (by decide) (by rw [List.length_take]; omega)
 have h4 : (10 : Nat) ^ 17 = 100000000000000000 := by decide
 omega
theorem B.nn_nil {l : List UInt8} (h : l.length = 0) : ¬ B.Num l := fun c => c.1.1 (List.eq_nil_of_length_eq_zero h)
theorem B.head_at {l : List UInt8} (h : 1 ≤ l.length) : l.head? = some 48 ↔ byteAt l 0 = 48 := by
 obtain ⟨c, r, rfl⟩ := List.exists_cons_of_ne_nil (fun e : l = [] => by subst e; simp at h)
 show some c = some 48 ↔ ((c.toNat : Nat) : Int) = 48
 constructor
 ·intro e; cases e; rfl
 ·intro e
  have : c = 48 := UInt8.toNat_inj.1 (show c.toNat = 48 by omega)
  rw [this]
theorem B.nn_zero {l : List UInt8} (h : byteAt l 0 = 48) (h1 : 1 < l.length) : ¬ B.Num l := fun c => c.1.2.2 h1 ((B.head_at (by omega)).2 h)
theorem B.nn_digit {l : List UInt8} {k : Nat} (h : k < l.length) (hb : ¬ (48 ≤ byteAt l (k : Int) ∧ byteAt l (k : Int) ≤ 57)) : ¬ B.Num l := fun c => hb (B.isD_iff.1 c.1.2.1 k h)
theorem B.num_all {l : List UInt8} (h1 : 1 ≤ l.length) (h2 : l.length ≤ 18) (h3 : byteAt l 0 = 48 → l.length ≤ 1) (hall : ∀ i : Nat, i < l.length → 48 ≤ byteAt l (i : Int) ∧ byteAt l (i : Int) ≤ 57) : B.Num l :=
 ⟨⟨fun e => by subst e; simp at h1, B.isD_iff.2 hall, fun hl hh => absurd (h3 ((B.head_at h1).1 hh)) (by omega)⟩, h2⟩
theorem c128 {l : List UInt8} {w : World} (hn : l.length ≤ 100000)  :
  Fn Tryz.prog 128 [(str l)].toArray w (fun u _ => B.NB u l) := by
 refine fn_of' (args := [(str l)]) Tryz.func128 rfl (ent Tryz.func128 (by kernel_rfl) rfl) rfl rfl (fun hH => ?_)
 refine seq (region (ops_y hH rfl rfl (yv_assign rfl) (ops_y hH rfl rfl (yv_assign rfl) (ops_nil (thn_n (seq (seq (region (ops_y hH rfl rfl (yv_move rfl) ?_)))))))))
 refine ops_y hH rfl rfl (yv_lenS Tryz.underlying9 rfl) ?_
 refine ops_y hH rfl rfl (yv_eql rfl rfl) ?_
 refine ops_y hH rfl rfl (yv_move rfl) ?_
 by_cases hc1 : (l.length : Int) = 0
 ·skip
  refine guard_no rfl rfl (decide_eq_true hc1) rfl ?_
  refine guard_no rfl rfl (decide_eq_true hc1) rfl ?_
  refine guard_no rfl rfl (decide_eq_true hc1) rfl ?_
  refine ops_y hH rfl rfl (yv_pick_t rfl (decide_eq_true hc1) rfl) ?_
  refine ops_y hH rfl rfl (yv_move rfl) (guard_no rfl rfl rfl rfl (guard_no rfl rfl rfl rfl (guard_no rfl rfl rfl rfl (guard_no rfl rfl rfl rfl ?_))))
  refine guard_none rfl rfl rfl ?_
  refine guard_none rfl rfl rfl ?_
  refine guard_none rfl rfl rfl ?_
  refine guard_no rfl rfl rfl rfl ?_
  refine ops_y hH rfl rfl (yv_pick_t rfl rfl rfl) ?_
  refine ops_nil (thn_n ?_)
  refine cond_t rfl rfl ?_
  refine seq ?_
  have hnn : ¬ B.Num l := by first | exact B.nn_nil (by omega) | exact B.nn_long (by omega) | exact B.nn_zero ‹_› (by omega)
  refine region (ops_y hH rfl rfl (yv_assign rfl) (ops_y hH rfl rfl (yv_assign rfl) (ops_nil (thn_n (ret (thn_r ?_))))))
  refine fin hH (fun w' hf => (res2 rfl (show RV _ _ _ (.tmp 2) _ from rfl) (show RV _ _ _ (.tmp 3) _ from rfl))) (fun w' hf => ?_)
  first | exact B.nb_f hnn | exact B.nb_t hnum hkl
 ·skip
  refine guard_yes rfl rfl (decide_eq_false hc1) ?_
  refine ops_y hH rfl rfl (yv_move rfl) ?_
  refine guard_yes rfl rfl (decide_eq_false hc1) ?_
  refine ops_y hH rfl rfl (yv_lenS Tryz.underlying9 rfl) ?_
  refine guard_yes rfl rfl (decide_eq_false hc1) ?_
  refine ops_y hH rfl rfl (yv_gtr rfl rfl) ?_
  refine ops_y hH rfl rfl (yv_pick_f rfl (decide_eq_false hc1) rfl) ?_
  refine ops_y hH rfl rfl (yv_move rfl) ?_
  by_cases hc2 : 18 < (l.length : Int)
  ·skip
   refine guard_no rfl rfl (decide_eq_true hc2) rfl ?_
   refine guard_no rfl rfl (decide_eq_true hc2) rfl ?_
   refine guard_no rfl rfl (decide_eq_true hc2) rfl ?_
   refine guard_no rfl rfl (decide_eq_true hc2) rfl ?_
   refine guard_none rfl rfl rfl ?_
   refine guard_none rfl rfl rfl ?_
   refine guard_none rfl rfl rfl ?_
   refine guard_no rfl rfl (decide_eq_true hc2) rfl ?_
   refine ops_y hH rfl rfl (yv_pick_t rfl (decide_eq_true hc2) rfl) ?_
   refine ops_nil (thn_n ?_)
   refine cond_t rfl rfl ?_
   refine seq ?_
   have hnn : ¬ B.Num l := by first | exact B.nn_nil (by omega) | exact B.nn_long (by omega) | exact B.nn_zero ‹_› (by omega)
   refine region (ops_y hH rfl rfl (yv_assign rfl) (ops_y hH rfl rfl (yv_assign rfl) (ops_nil (thn_n (ret (thn_r ?_))))))
   refine fin hH (fun w' hf => (res2 rfl (show RV _ _ _ (.tmp 2) _ from rfl) (show RV _ _ _ (.tmp 3) _ from rfl))) (fun w' hf => ?_)
   first | exact B.nb_f hnn | exact B.nb_t hnum hkl
  ·skip
   refine guard_yes rfl rfl (decide_eq_false hc2) ?_
   refine ops_y hH rfl rfl (yv_move rfl) ?_
   refine guard_yes rfl rfl (decide_eq_false hc2) ?_
   refine ops_y hH rfl rfl (yv_idxS Tryz.underlying9 rfl rfl (by omega)) ?_
   refine guard_yes rfl rfl (decide_eq_false hc2) ?_
   refine ops_y hH rfl rfl (yv_eql rfl rfl) ?_
   refine guard_yes rfl rfl (decide_eq_false hc2) ?_
   refine ops_y hH rfl rfl (yv_move rfl) ?_
   by_cases hc3 : (byteAt l 0) = 48
   ·skip
    refine guard_yes rfl rfl (decide_eq_true hc3) ?_
    refine ops_y hH rfl rfl (yv_move rfl) ?_
    refine guard_yes rfl rfl (decide_eq_true hc3) ?_
    refine ops_y hH rfl rfl (yv_lenS Tryz.underlying9 rfl) ?_
    refine guard_yes rfl rfl (decide_eq_true hc3) ?_
    refine ops_y hH rfl rfl (yv_gtr rfl rfl) ?_
    refine guard_yes rfl rfl (decide_eq_false hc2) ?_
    refine ops_y hH rfl rfl (yv_pick_t rfl (decide_eq_true hc3) rfl) ?_
    refine ops_y hH rfl rfl (yv_pick_f rfl (decide_eq_false hc2) rfl) ?_
    refine ops_nil (thn_n ?_)
    by_cases hc4 : 1 < (l.length : Int)
    ·skip
     refine cond_t rfl (decide_eq_true hc4) ?_
     refine seq ?_
     have hnn : ¬ B.Num l := by first | exact B.nn_nil (by omega) | exact B.nn_long (by omega) | exact B.nn_zero ‹_› (by omega)
     refine region (ops_y hH rfl rfl (yv_assign rfl) (ops_y hH rfl rfl (yv_assign rfl) (ops_nil (thn_n (ret (thn_r ?_))))))
     refine fin hH (fun w' hf => (res2 rfl (show RV _ _ _ (.tmp 2) _ from rfl) (show RV _ _ _ (.tmp 3) _ from rfl))) (fun w' hf => ?_)
     first | exact B.nb_f hnn | exact B.nb_t hnum hkl
    ·skip
     refine cond_f rfl (decide_eq_false hc4) ?_
     refine skip (thn_n (seq ?_))
     have h1l : 1 ≤ l.length := by omega
     have h18 : l.length ≤ 18 := by omega
     have h48 : byteAt l 0 = 48 → l.length ≤ 1 := fun h => by omega
     refine region (ops_y hH rfl rfl (yv_assign rfl) (ops_nil (thn_n (seq (seq (region (ops_y hH rfl rfl (yv_assign rfl) (ops_nil (thn_n ?_)))))))))
     refine block ?_
     refine loop (S := Nat) (fun k => [(4, (.int .i64 (B.val (l.take k) : Int))), (5, (.int .i64 (k : Int))), (0, (str l))]) (fun k w1 => Heap [base w] w1 ∧ k ≤ l.length ∧ ∀ i : Nat, i < k → 48 ≤ byteAt l (i : Int) ∧ byteAt l (i : Int) ≤ 57) (fun k => l.length - k) (0) (Sub.cons rfl (Sub.cons rfl (Sub.cons rfl (Sub.nil _)))) ?_ ?_
     ·exact ⟨hH, by omega, fun i h => by omega⟩
     ·rintro k w5 ⟨hH6, hk, hall⟩
      show Holds _ _ _ _ _ [(4, (.int .i64 (B.val (l.take k) : Int))), (5, (.int .i64 (k : Int))), (0, (str l))] _ _
      refine seq (seq (region (ops_y hH6 rfl rfl (yv_move rfl) (ops_y hH6 rfl rfl (yv_move rfl) ?_))))
      refine ops_y hH6 rfl rfl (yv_lenS Tryz.underlying9 rfl) ?_
      refine ops_y hH6 rfl rfl (yv_lss rfl rfl) ?_
      refine ops_nil (thn_n ?_)
      by_cases hc7 : (k : Int) < (l.length : Int)
      ·skip
       refine cond_t rfl (decide_eq_true hc7) ?_
       refine skip (thn_n (seq (block (seq (seq ?_)))))
       have hbb := @byteAt_bd l (k : Int)
       refine region (ops_y hH6 rfl rfl (yv_move rfl) (ops_y hH6 rfl rfl (yv_move rfl) ?_))
       refine ops_y hH6 rfl rfl (yv_idxS Tryz.underlying9 rfl rfl (by omega)) ?_
       refine ops_y hH6 rfl rfl (yv_lss rfl rfl) ?_
       refine ops_y hH6 rfl rfl (yv_move rfl) ?_
       by_cases hc8 : (byteAt l (k : Int)) < 48
       ·skip
        refine guard_no rfl rfl (decide_eq_true hc8) rfl ?_
        refine guard_no rfl rfl (decide_eq_true hc8) rfl ?_
        refine guard_no rfl rfl (decide_eq_true hc8) rfl ?_
        refine guard_no rfl rfl (decide_eq_true hc8) rfl ?_
        refine ops_y hH6 rfl rfl (yv_pick_t rfl (decide_eq_true hc8) rfl) ?_
        refine ops_nil (thn_n ?_)
        refine cond_t rfl rfl ?_
        refine seq ?_
        have hnn : ¬ B.Num l := B.nn_digit (k := k) (by omega) (by omega)
        refine region (ops_y hH6 rfl rfl (yv_assign rfl) (ops_y hH6 rfl rfl (yv_assign rfl) (ops_nil (thn_n (ret (thn_r (blk_r (thn_r (lp_r ?_)))))))))
        refine blk_r (thn_r ?_)
        refine fin hH6 (fun w' hf => (res2 rfl (show RV _ _ _ (.tmp 2) _ from rfl) (show RV _ _ _ (.tmp 3) _ from rfl))) (fun w' hf => ?_)
        first | exact B.nb_f hnn | exact B.nb_t hnum hkl
       ·skip
        refine guard_yes rfl rfl (decide_eq_false hc8) ?_
        refine ops_y hH6 rfl rfl (yv_move rfl) ?_
        refine guard_yes rfl rfl (decide_eq_false hc8) ?_
        refine ops_y hH6 rfl rfl (yv_move rfl) ?_
        refine guard_yes rfl rfl (decide_eq_false hc8) ?_
        refine ops_y hH6 rfl rfl (yv_idxS Tryz.underlying9 rfl rfl (by omega)) ?_
        refine guard_yes rfl rfl (decide_eq_false hc8) ?_
        refine ops_y hH6 rfl rfl (yv_gtr rfl rfl) ?_
        refine ops_y hH6 rfl rfl (yv_pick_f rfl (decide_eq_false hc8) rfl) ?_
        refine ops_nil (thn_n ?_)
        by_cases hc9 : 57 < (byteAt l (k : Int))
        ·skip
         have hnn : ¬ B.Num l := B.nn_digit (k := k) (by omega) (by omega)
         refine cond_t rfl (decide_eq_true hc9) ?_
         refine seq ?_
         have hnn : ¬ B.Num l := B.nn_digit (k := k) (by omega) (by omega)
         refine region (ops_y hH6 rfl rfl (yv_assign rfl) (ops_y hH6 rfl rfl (yv_assign rfl) (ops_nil (thn_n (ret (thn_r (blk_r (thn_r (lp_r ?_)))))))))
         refine blk_r (thn_r ?_)
         refine fin hH6 (fun w' hf => (res2 rfl (show RV _ _ _ (.tmp 2) _ from rfl) (show RV _ _ _ (.tmp 3) _ from rfl))) (fun w' hf => ?_)
         first | exact B.nb_f hnn | exact B.nb_t hnum hkl
        ·skip
         refine cond_f rfl (decide_eq_false hc9) ?_
         refine skip (thn_n ?_)
         have hvb := B.val_bd (k := k) (by omega) h18 hall
         refine region (ops_y hH6 rfl rfl (yv_move rfl) ?_)
         refine ops_y hH6 rfl rfl (yv_mul rfl rfl (by omega)) ?_
         refine ops_y hH6 rfl rfl (yv_move rfl) (ops_y hH6 rfl rfl (yv_move rfl) ?_)
         refine ops_y hH6 rfl rfl (yv_idxS Tryz.underlying9 rfl rfl (by omega)) ?_
         refine ops_y hH6 rfl rfl (yv_subK rfl rfl (wrap_u8 (by omega))) ?_
         refine ops_y hH6 rfl rfl (yv_conv Tryz.underlying5 Tryz.underlying2 rfl (wrap_i64 (by omega))) ?_
         refine ops_y hH6 rfl rfl (yv_add rfl rfl (by omega)) ?_
         refine ops_y hH6 rfl rfl (yv_assign rfl) (ops_nil (blk_n (thn_n (region (ops_y hH6 rfl rfl (yv_move rfl) ?_)))))
         refine ops_y hH6 rfl rfl (yv_add rfl rfl (by omega)) ?_
         refine ops_y hH6 rfl rfl (yv_assign rfl) (ops_nil ?_)
         refine lp_n (k + 1) (Sub.cons (congrArg (fun z : Int => some (Value.int .i64 z)) (by rw [B.val_tk (by omega) (by omega)])) (Sub.cons rfl (Sub.cons rfl (Sub.nil _)))) ?_ ?_
         ·exact ⟨hH6, by omega, B.all_snoc hall (by omega)⟩
         ·first | (dsimp only; omega) | (show _ < _; omega)
      ·skip
       refine cond_f rfl (decide_eq_false hc7) ?_
       refine exit (thn_x (lp_x (blk_here (thn_n (seq ?_)))))
       have hnum : B.Num l := B.num_all h1l h18 h48 (fun i hi => hall i (by omega))
       have hkl : (B.val (l.take k) : Int) = (B.val l : Int) := by rw [show k = l.length by omega, List.take_length]
       refine region (ops_y hH6 rfl rfl (yv_move rfl) (ops_y hH6 rfl rfl (yv_assign rfl) (ops_y hH6 rfl rfl (yv_assign rfl) (ops_nil (thn_n (ret ?_))))))
       refine fin hH6 (fun w' hf => (res2 rfl (show RV _ _ _ (.tmp 2) _ from rfl) (show RV _ _ _ (.tmp 3) _ from rfl))) (fun w' hf => ?_)
       first | exact B.nb_f hnn | exact B.nb_t hnum hkl
   ·skip
    refine guard_no rfl rfl (decide_eq_false hc3) rfl ?_
    refine guard_no rfl rfl (decide_eq_false hc3) rfl ?_
    refine guard_no rfl rfl (decide_eq_false hc3) rfl ?_
    refine guard_yes rfl rfl (decide_eq_false hc2) ?_
    refine ops_y hH rfl rfl (yv_pick_f rfl (decide_eq_false hc3) rfl) ?_
    refine ops_y hH rfl rfl (yv_pick_f rfl (decide_eq_false hc2) rfl) ?_
    refine ops_nil (thn_n ?_)
    refine cond_f rfl rfl ?_
    refine skip (thn_n (seq ?_))
    have h1l : 1 ≤ l.length := by omega
    have h18 : l.length ≤ 18 := by omega
    have h48 : byteAt l 0 = 48 → l.length ≤ 1 := fun h => by omega
    refine region (ops_y hH rfl rfl (yv_assign rfl) (ops_nil (thn_n (seq (seq (region (ops_y hH rfl rfl (yv_assign rfl) (ops_nil (thn_n ?_)))))))))
    refine block ?_
    refine loop (S := Nat) (fun k => [(4, (.int .i64 (B.val (l.take k) : Int))), (5, (.int .i64 (k : Int))), (0, (str l))]) (fun k w1 => Heap [base w] w1 ∧ k ≤ l.length ∧ ∀ i : Nat, i < k → 48 ≤ byteAt l (i : Int) ∧ byteAt l (i : Int) ≤ 57) (fun k => l.length - k) (0) (Sub.cons rfl (Sub.cons rfl (Sub.cons rfl (Sub.nil _)))) ?_ ?_
    ·exact ⟨hH, by omega, fun i h => by omega⟩
    ·rintro k w10 ⟨hH11, hk, hall⟩
     show Holds _ _ _ _ _ [(4, (.int .i64 (B.val (l.take k) : Int))), (5, (.int .i64 (k : Int))), (0, (str l))] _ _
     refine seq (seq (region (ops_y hH11 rfl rfl (yv_move rfl) (ops_y hH11 rfl rfl (yv_move rfl) ?_))))
     refine ops_y hH11 rfl rfl (yv_lenS Tryz.underlying9 rfl) ?_
     refine ops_y hH11 rfl rfl (yv_lss rfl rfl) ?_
     refine ops_nil (thn_n ?_)
     by_cases hc12 : (k : Int) < (l.length : Int)
     ·skip
      refine cond_t rfl (decide_eq_true hc12) ?_
      refine skip (thn_n (seq (block (seq (seq ?_)))))
      have hbb := @byteAt_bd l (k : Int)
      refine region (ops_y hH11 rfl rfl (yv_move rfl) (ops_y hH11 rfl rfl (yv_move rfl) ?_))
      refine ops_y hH11 rfl rfl (yv_idxS Tryz.underlying9 rfl rfl (by omega)) ?_
      refine ops_y hH11 rfl rfl (yv_lss rfl rfl) ?_
      refine ops_y hH11 rfl rfl (yv_move rfl) ?_
      by_cases hc13 : (byteAt l (k : Int)) < 48
      ·skip
       refine guard_no rfl rfl (decide_eq_true hc13) rfl ?_
       refine guard_no rfl rfl (decide_eq_true hc13) rfl ?_
       refine guard_no rfl rfl (decide_eq_true hc13) rfl ?_
       refine guard_no rfl rfl (decide_eq_true hc13) rfl ?_
       refine ops_y hH11 rfl rfl (yv_pick_t rfl (decide_eq_true hc13) rfl) ?_
       refine ops_nil (thn_n ?_)
       refine cond_t rfl rfl ?_
       refine seq ?_
       have hnn : ¬ B.Num l := B.nn_digit (k := k) (by omega) (by omega)
       refine region (ops_y hH11 rfl rfl (yv_assign rfl) (ops_y hH11 rfl rfl (yv_assign rfl) (ops_nil (thn_n (ret (thn_r (blk_r (thn_r (lp_r ?_)))))))))
       refine blk_r (thn_r ?_)
       refine fin hH11 (fun w' hf => (res2 rfl (show RV _ _ _ (.tmp 2) _ from rfl) (show RV _ _ _ (.tmp 3) _ from rfl))) (fun w' hf => ?_)
       first | exact B.nb_f hnn | exact B.nb_t hnum hkl
      ·skip
       refine guard_yes rfl rfl (decide_eq_false hc13) ?_
       refine ops_y hH11 rfl rfl (yv_move rfl) ?_
       refine guard_yes rfl rfl (decide_eq_false hc13) ?_
       refine ops_y hH11 rfl rfl (yv_move rfl) ?_
       refine guard_yes rfl rfl (decide_eq_false hc13) ?_
       refine ops_y hH11 rfl rfl (yv_idxS Tryz.underlying9 rfl rfl (by omega)) ?_
       refine guard_yes rfl rfl (decide_eq_false hc13) ?_
       refine ops_y hH11 rfl rfl (yv_gtr rfl rfl) ?_
       refine ops_y hH11 rfl rfl (yv_pick_f rfl (decide_eq_false hc13) rfl) ?_
       refine ops_nil (thn_n ?_)
       by_cases hc14 : 57 < (byteAt l (k : Int))
       ·skip
        have hnn : ¬ B.Num l := B.nn_digit (k := k) (by omega) (by omega)
        refine cond_t rfl (decide_eq_true hc14) ?_
        refine seq ?_
        have hnn : ¬ B.Num l := B.nn_digit (k := k) (by omega) (by omega)
        refine region (ops_y hH11 rfl rfl (yv_assign rfl) (ops_y hH11 rfl rfl (yv_assign rfl) (ops_nil (thn_n (ret (thn_r (blk_r (thn_r (lp_r ?_)))))))))
        refine blk_r (thn_r ?_)
        refine fin hH11 (fun w' hf => (res2 rfl (show RV _ _ _ (.tmp 2) _ from rfl) (show RV _ _ _ (.tmp 3) _ from rfl))) (fun w' hf => ?_)
        first | exact B.nb_f hnn | exact B.nb_t hnum hkl
       ·skip
        refine cond_f rfl (decide_eq_false hc14) ?_
        refine skip (thn_n ?_)
        have hvb := B.val_bd (k := k) (by omega) h18 hall
        refine region (ops_y hH11 rfl rfl (yv_move rfl) ?_)
        refine ops_y hH11 rfl rfl (yv_mul rfl rfl (by omega)) ?_
        refine ops_y hH11 rfl rfl (yv_move rfl) (ops_y hH11 rfl rfl (yv_move rfl) ?_)
        refine ops_y hH11 rfl rfl (yv_idxS Tryz.underlying9 rfl rfl (by omega)) ?_
        refine ops_y hH11 rfl rfl (yv_subK rfl rfl (wrap_u8 (by omega))) ?_
        refine ops_y hH11 rfl rfl (yv_conv Tryz.underlying5 Tryz.underlying2 rfl (wrap_i64 (by omega))) ?_
        refine ops_y hH11 rfl rfl (yv_add rfl rfl (by omega)) ?_
        refine ops_y hH11 rfl rfl (yv_assign rfl) (ops_nil (blk_n (thn_n (region (ops_y hH11 rfl rfl (yv_move rfl) ?_)))))
        refine ops_y hH11 rfl rfl (yv_add rfl rfl (by omega)) ?_
        refine ops_y hH11 rfl rfl (yv_assign rfl) (ops_nil ?_)
        refine lp_n (k + 1) (Sub.cons (congrArg (fun z : Int => some (Value.int .i64 z)) (by rw [B.val_tk (by omega) (by omega)])) (Sub.cons rfl (Sub.cons rfl (Sub.nil _)))) ?_ ?_
        ·exact ⟨hH11, by omega, B.all_snoc hall (by omega)⟩
        ·first | (dsimp only; omega) | (show _ < _; omega)
     ·skip
      refine cond_f rfl (decide_eq_false hc12) ?_
      refine exit (thn_x (lp_x (blk_here (thn_n (seq ?_)))))
      have hnum : B.Num l := B.num_all h1l h18 h48 (fun i hi => hall i (by omega))
      have hkl : (B.val (l.take k) : Int) = (B.val l : Int) := by rw [show k = l.length by omega, List.take_length]
      refine region (ops_y hH11 rfl rfl (yv_move rfl) (ops_y hH11 rfl rfl (yv_assign rfl) (ops_y hH11 rfl rfl (yv_assign rfl) (ops_nil (thn_n (ret ?_))))))
      refine fin hH11 (fun w' hf => (res2 rfl (show RV _ _ _ (.tmp 2) _ from rfl) (show RV _ _ _ (.tmp 3) _ from rfl))) (fun w' hf => ?_)
      first | exact B.nb_f hnn | exact B.nb_t hnum hkl
end Go.Fip
namespace Go.Fip
open Go.Proofs Go.RowKit
theorem byte_eq {a b : UInt8} (h : ((a.toNat : Nat) : Int) = ((b.toNat : Nat) : Int)) : a = b := UInt8.toNat_inj.1 (by omega)
theorem B.take_snoc {l : List UInt8} {k : Nat} (h : k < l.length) : l.take (k + 1) = l.take k ++ [l[k]] := List.take_succ_eq_append_getElem h
theorem B.sp_tk_eq {l : List UInt8} {c : UInt8} {k : Nat} (h : k < l.length) (e : byteAt l (k : Int) = ((c.toNat : Nat) : Int)) : B.sp c (l.take (k + 1)) = B.sp c (l.take k) ++ [[]] := by
 rw [B.byteAt_nat h] at e
 rw [B.take_snoc h, byte_eq e, B.sp_snoc_eq]
theorem B.sp_tk_ne {l : List UInt8} {c : UInt8} {k : Nat} {n : Nat} (h : k < l.length) (e : ¬ byteAt l (k : Int) = ((c.toNat : Nat) : Int)) (hn : n = (B.sp c (l.take k)).length - 1) : B.sp c (l.take (k + 1)) = (B.sp c (l.take k)).set n (nth (B.sp c (l.take k)) (n : Int) ++ (l.take (k + 1)).drop k) := by
 rw [B.byteAt_nat h] at e
 have hx : ¬ l[k] = c := fun c2 => e (by rw [c2])
 have h2 : (l.take (k + 1)).drop k = [l[k]] := by
  rw [B.take_snoc h, List.drop_append_of_le_length (by rw [List.length_take]; omega), List.drop_eq_nil_of_le (by rw [List.length_take]; omega)]; rfl
 rw [h2, B.take_snoc h, B.sp_snoc_ne c _ hx, hn]
theorem c92 {l : List UInt8} {c : UInt8} {w : World} (hn : l.length ≤ 100000)  :
  Fn Tryz.prog 92 [(str l), (.int .u8 ((c.toNat : Nat) : Int))].toArray w (fun u w => Own 9 1 encT u (B.sp c l) w) := by
 refine fn_of' (args := [(str l), (.int .u8 ((c.toNat : Nat) : Int))]) Tryz.func92 rfl (ent Tryz.func92 (by kernel_rfl) rfl) rfl rfl (fun hH => ?_)
 refine seq (region (ops_y hH rfl rfl (yv_assign rfl) (ops_nil (thn_n (seq (region ?_))))))
 refine op_lit (us := [(0, (str ([] : List UInt8)))]) T.el56_encT [([] : List UInt8)] rfl (by decide) rfl (fun a ha => by simp [ha.ev (show ev _ (.const (str ([] : List UInt8))) = some _ from rfl)] <;> rfl) (fun w => by kernel_rfl) hH (fun u1 lo3 hi4 w2 hH5 => ?_)
 refine ops_y hH5 rfl rfl (yv_assign rfl) (ops_nil (thn_n (seq (seq (region (ops_y hH5 rfl rfl (yv_assign rfl) (ops_nil (thn_n (block ?_)))))))))
 refine loop (S := Nat × Value × Nat × Nat) (fun (k, v_5, lo_5, hi_5) => [(6, (.int .i64 (k : Int))), (5, v_5), (0, (str l)), (1, (.int .u8 ((c.toNat : Nat) : Int))), (4, (.slice none 0 0))]) (fun (k, v_5, lo_5, hi_5) w1 => Heap [ow lo_5 hi_5 9 1 encT v_5 (B.sp c (l.take k)), base w] w1 ∧ k ≤ l.length) (fun (k, v_5, lo_5, hi_5) => l.length - k) (0, u1, lo3, hi4) (Sub.cons rfl (Sub.cons rfl (Sub.cons rfl (Sub.cons rfl (Sub.cons rfl (Sub.nil _)))))) ?_ ?_
 ·exact ⟨(Heap.recast (n := 0) hH5 rfl (rfl)), by omega⟩
 ·rintro ⟨k, v_5, lo_5, hi_5⟩ w6 ⟨hH7, hk⟩
  show Holds _ _ _ _ _ [(6, (.int .i64 (k : Int))), (5, v_5), (0, (str l)), (1, (.int .u8 ((c.toNat : Nat) : Int))), (4, (.slice none 0 0))] _ _
  have hsl := B.sp_len c (l.take k)
  have hsp := B.sp_len_pos c (l.take k)
  have htk : (l.take k).length = k := by rw [List.length_take]; omega
  obtain ⟨q, hq⟩ : ∃ q, q = (B.sp c (l.take k)).length - 1 := ⟨_, rfl⟩
  have hql := B.sp_nth_len (c := c) (l := l.take k) (k := q) (by omega)
  have hq2 : (((B.sp c (l.take k)).length : Int) - 1) = (q : Int) := by omega
  have hqe : (nth (B.sp c (l.take k)) (((B.sp c (l.take k)).length : Int) - 1)).length ≤ (l.take k).length := by rw [hq2]; exact hql
  refine seq (seq (region (ops_y hH7 rfl rfl (yv_move rfl) (ops_y hH7 rfl rfl (yv_move rfl) ?_))))
  refine ops_y hH7 rfl rfl (yv_lenS Tryz.underlying9 rfl) ?_
  refine ops_y hH7 rfl rfl (yv_lss rfl rfl) ?_
  refine ops_nil (thn_n ?_)
  by_cases hc8 : (k : Int) < (l.length : Int)
  ·skip
   refine cond_t rfl (decide_eq_true hc8) ?_
   refine skip (thn_n (seq (block (seq (region (ops_y hH7 rfl rfl (yv_move rfl) (ops_y hH7 rfl rfl (yv_move rfl) ?_)))))))
   refine ops_y hH7 rfl rfl (yv_idxS Tryz.underlying9 rfl rfl (by omega)) ?_
   refine ops_y hH7 rfl rfl (yv_move rfl) ?_
   refine ops_y hH7 rfl rfl (yv_eql rfl rfl) ?_
   refine ops_nil (thn_n ?_)
   by_cases hc9 : (byteAt l (k : Int)) = ((c.toNat : Nat) : Int)
   ·skip
    refine cond_t rfl (decide_eq_true hc9) ?_
    refine region (ops_y hH7 rfl rfl (yv_move rfl) ?_)
    refine op_lit (us := [(0, (str ([] : List UInt8)))]) T.el56_encT [([] : List UInt8)] rfl (by decide) rfl (fun a ha => by simp [ha.ev (show ev _ (.const (str ([] : List UInt8))) = some _ from rfl)] <;> rfl) (fun w => by kernel_rfl) hH7 (fun u10 lo12 hi13 w11 hH14 => ?_)
    refine op_append (n := 1) T.el56_encT rfl rfl rfl hH14 rfl (Heap.rdw T.el56_encT hH14 (n := 0) rfl) (by first | omega | (simp only [List.length_append, List.length_cons, List.length_nil]; omega)) (fun u15 lo17 hi18 w16 hH19 => ?_)
    refine ops_y hH19 rfl rfl (yv_assign rfl) (ops_nil (blk_n (thn_n (region (ops_y hH19 rfl rfl (yv_move rfl) ?_)))))
    refine ops_y hH19 rfl rfl (yv_add rfl rfl (by omega)) ?_
    refine ops_y hH19 rfl rfl (yv_assign rfl) (ops_nil ?_)
    have hH20 := (hH19.sub (List.Sublist.cons _ (List.Sublist.refl _)))
    refine lp_n (k + 1, u15, lo17, hi18) (Sub.cons rfl (Sub.cons rfl (Sub.cons rfl (Sub.cons rfl (Sub.cons rfl (Sub.nil _)))))) ?_ ?_
    ·exact ⟨(Heap.recast (n := 0) hH20 rfl (by first | rw [B.sp_tk_eq (by omega) ‹_›] | (rw [B.sp_tk_ne (by omega) ‹_› hq]; rw [show (((B.sp c (l.take k)).length : Int) - 1).toNat = q by omega, show (((B.sp c (l.take k)).length : Int) - 1) = (q : Int) by omega]; congr 2; try (rw [show ((k : Int) + 1).toNat = k + 1 by omega, Int.toNat_natCast])))), by omega⟩
    ·first | (dsimp only; omega) | (show _ < _; omega)
   ·skip
    refine cond_f rfl (decide_eq_false hc9) ?_
    refine region_drawY (fun w' => Heap [ow lo_5 hi_5 9 1 encT v_5 (B.sp c (l.take k)), base w] w') [17] T.mixed (fun w21 hr22 => ?_)
    have hH23 := hH7.redrawn hr22
    refine any_takesT [0, 1, 2, 3, 4, 5, 6, 7, 8, 10, 11, 12, 13, 14] (by kernel_rfl)  _ _ _ (by kernel_rfl) ?_
    refine qs_y rfl rfl (yv_move rfl) (qs_y rfl rfl (yv_move rfl) ?_)
    refine qs_y rfl rfl (yv_len T.sl56 rfl (Heap.rdw T.el56_encT hH23 (n := 0) rfl).is) ?_
    refine qs_y rfl rfl (yv_sub rfl rfl (by omega)) ?_
    refine qs_y rfl rfl (yv_move rfl) (qs_y rfl rfl (yv_move rfl) ?_)
    refine qs_y rfl rfl (yv_len T.sl56 rfl (Heap.rdw T.el56_encT hH23 (n := 0) rfl).is) ?_
    refine qs_y rfl rfl (yv_sub rfl rfl (by omega)) ?_
    refine qs_y rfl rfl (yv_index T.sl56 rfl rfl (Heap.rdw T.el56_encT hH23 (n := 0) rfl).is (by omega)) ?_
    refine qs_y rfl rfl (yv_move rfl) (qs_y rfl rfl (yv_move rfl) (qs_y rfl rfl (yv_move rfl) ?_))
    refine qs_y rfl rfl (yv_add rfl rfl (by omega)) ?_
    refine qs_y rfl rfl (yv_subS Tryz.underlying9 rfl rfl rfl (by omega)) ?_
    refine qs_nil ?_
    refine any_takesY [9] (by kernel_rfl) hH23 _ _ _ (by kernel_rfl) ?_
    refine qs_y rfl rfl (yv_load T.one9 rfl (fun _ hw => Rd.at (Heap.rdw T.el56_encT hw (n := 0) rfl) (i := ((B.sp c (l.take k)).length : Int) - 1) (by omega) (j := 0) rfl)) ?_
    refine qs_nil ?_
    refine any_takesT [15, 16] (by kernel_rfl)  _ _ _ (by kernel_rfl) ?_
    refine qs_y rfl rfl (yv_cat rfl rfl (by rw [List.length_drop, List.length_take]; omega)) ?_
    refine qs_y rfl rfl (yv_index T.sl56 rfl rfl (Heap.rdw T.el56_encT hH23 (n := 0) rfl).is (by omega)) ?_
    refine qs_nil ?_
    refine any_allY [17] (by kernel_rfl) rfl ?_
    refine ⟨⟨_, rfl, ?_⟩, trivial⟩
    ·skip
     refine op_setE (n := 0) (i := ((B.sp c (l.take k)).length : Int) - 1) (k := 0) (us := [(str ((nth (B.sp c (l.take k)) (((B.sp c (l.take k)).length : Int) - 1)) ++ ((l.take ((k : Int) + 1).toNat).drop (k : Int).toNat)))]) (z := ((nth (B.sp c (l.take k)) (((B.sp c (l.take k)).length : Int) - 1)) ++ ((l.take ((k : Int) + 1).toNat).drop (k : Int).toNat))) T.el56_encT rfl rfl hH23 rfl (by omega) T.sz9 rfl rfl rfl (Nat.le_of_ble_eq_true rfl) (fun w24 hH25 => ?_)
     refine ops_nil ?_
     refine ⟨(fun h => by cases h), ?_⟩
     refine any_doneY (by kernel_rfl) ?_
     refine blk_n (thn_n (region (ops_y hH25 rfl rfl (yv_move rfl) ?_)))
     refine ops_y hH25 rfl rfl (yv_add rfl rfl (by omega)) ?_
     refine ops_y hH25 rfl rfl (yv_assign rfl) (ops_nil ?_)
     refine lp_n (k + 1, v_5, lo_5, hi_5) (Sub.cons rfl (Sub.cons rfl (Sub.cons rfl (Sub.cons rfl (Sub.cons rfl (Sub.nil _)))))) ?_ ?_
     ·exact ⟨(Heap.recast (n := 0) hH25 rfl (by first | rw [B.sp_tk_eq (by omega) ‹_›] | (rw [B.sp_tk_ne (by omega) ‹_› hq]; rw [show (((B.sp c (l.take k)).length : Int) - 1).toNat = q by omega, show (((B.sp c (l.take k)).length : Int) - 1) = (q : Int) by omega]; congr 2; try (rw [show ((k : Int) + 1).toNat = k + 1 by omega, Int.toNat_natCast])))), by omega⟩
     ·first | (dsimp only; omega) | (show _ < _; omega)
  ·skip
   refine cond_f rfl (decide_eq_false hc8) ?_
   refine exit (thn_x (lp_x (blk_here (thn_n (seq (region (ops_y hH7 rfl rfl (yv_move rfl) (ops_y hH7 rfl rfl (yv_assign rfl) (ops_nil ?_)))))))))
   refine thn_n (ret ?_)
   refine fin (hH7.front (n := 1) rfl) (fun w' hf => (res1 rfl (show RV _ _ _ (.tmp 4) _ from rfl))) (fun w' hf => ?_)
   rw [← show B.sp c (l.take k) = B.sp c l by rw [show k = l.length by omega, List.take_length]]; exact Heap.own hf (n := 0) rfl
end Go.Fip
namespace Go.Fip
open Go.Proofs Go.RowKit
theorem B.xd_a {b : UInt8} (h : 48 ≤ b.toNat ∧ b.toNat ≤ 57) : B.xd b = b.toNat - 48 := by unfold B.xd; rw [if_pos h.2]
theorem B.xd_b {b : UInt8} (h : 97 ≤ b.toNat) : B.xd b = b.toNat - 87 := by unfold B.xd; rw [if_neg (by omega)]
theorem B.hex_tk {l : List UInt8} {k : Nat} (h : k < l.length) (h4 : 4 ≤ k) : (l.take (k + 1)).drop 4 = (l.take k).drop 4 ++ [l[k]] := by
 rw [B.take_snoc h, List.drop_append_of_le_length (by rw [List.length_take]; omega)]
theorem B.hex_a {l : List UInt8} {k : Nat} (h : k < l.length) (h4 : 4 ≤ k) (hb : 48 ≤ byteAt l (k : Int) ∧ byteAt l (k : Int) ≤ 57) : (B.hexV ((l.take (k + 1)).drop 4) : Int) = 16 * (B.hexV ((l.take k).drop 4) : Int) + (byteAt l (k : Int) - 48) := by
 rw [B.byteAt_nat h] at hb ⊢
 rw [B.hex_tk h h4, B.hexV_snoc, B.xd_a (by omega)]; omega
theorem B.hex_b {l : List UInt8} {k : Nat} (h : k < l.length) (h4 : 4 ≤ k) (hb : 97 ≤ byteAt l (k : Int)) : (B.hexV ((l.take (k + 1)).drop 4) : Int) = 16 * (B.hexV ((l.take k).drop 4) : Int) + (byteAt l (k : Int) - 97) + 10 := by
 rw [B.byteAt_nat h] at hb ⊢
 rw [B.hex_tk h h4, B.hexV_snoc, B.xd_b (by omega)]; omega
theorem B.hex_bd {l : List UInt8} {k : Nat} (hk : k < 20) (hl : l.length = 20) (h : ∀ i : Nat, i < k → 4 ≤ i → B.hxAt l i) : (B.hexV ((l.take k).drop 4) : Int) ≤ 1152921504606846975 := by
 have h1 := (B.hexN_V _ (B.hxs (by omega) h)).2
 have h2 : (16 : Nat) ^ ((l.take k).drop 4).length ≤ 16 ^ 15 := Nat.pow_le_pow_right (by decide) (by rw [List.length_drop, List.length_take]; omega)
 have h3 : (16 : Nat) ^ 15 = 1152921504606846976 := by decide
 omega
theorem B.hx_all {l : List UInt8} (hl : l.length = 20) (h4 : l.take 4 = [115, 117, 109, 32]) (h : ∀ i : Nat, i < 20 → 4 ≤ i → B.hxAt l i) : B.Hx l := ⟨hl, h4, fun b hb => B.hxs (k := 20) (by omega) h b (by rwa [List.take_of_length_le (by omega)])⟩
theorem B.hx_not {l : List UInt8} {k : Nat} (hk : k < 20) (h4 : 4 ≤ k) (h : ¬ B.hxAt l k) : ¬ B.Hx l := fun c => by
 have hl := c.1
 refine h ((B.hxAt_iff (by omega)).2 (c.2.2 _ ?_))
 rw [List.mem_drop_iff_getElem]
 exact ⟨k - 4, by omega, by congr 1; omega⟩
theorem B.sumQ_eq {l : List UInt8} {k : Nat} (h : B.Hx l) (hk : k = 20) : B.sumQ l = ((B.hexV ((l.take k).drop 4) : Int), true) := by
 rw [B.sumQ_t h, List.take_of_length_le (by have := h.1; omega)]
theorem tupQ {p : Int × Bool} {a : Int} {b : Bool} {k : IntKind} (h : p = (a, b)) : Value.tuple #[.int k a, .bool b] = .tuple #[.int k p.1, .bool p.2] := by subst h; rfl
theorem c94 {l : List UInt8} {w : World} (hn : l.length ≤ 100000)  :
  Fn Tryz.prog 94 [(str l)].toArray w (fun u _ => u = .tuple #[.int .u64 (B.sumQ l).1, .bool (B.sumQ l).2]) := by
 refine fn_of' (args := [(str l)]) Tryz.func94 rfl (ent Tryz.func94 (by kernel_rfl) rfl) rfl rfl (fun hH => ?_)
 refine seq (region (ops_y hH rfl rfl (yv_assign rfl) (ops_y hH rfl rfl (yv_assign rfl) (ops_nil (thn_n (seq (seq (region (ops_y hH rfl rfl (yv_move rfl) ?_)))))))))
 refine ops_y hH rfl rfl (yv_lenS Tryz.underlying9 rfl) ?_
 refine ops_y hH rfl rfl (yv_neq rfl rfl) ?_
 refine ops_y hH rfl rfl (yv_move rfl) ?_
 by_cases hc1 : (l.length : Int) = 20
 ·skip
  refine guard_yes rfl rfl (not_decide_n hc1) ?_
  refine ops_y hH rfl rfl (yv_move rfl) ?_
  refine guard_yes rfl rfl (not_decide_n hc1) ?_
  refine ops_y hH rfl rfl (yv_subS_hi Tryz.underlying9 rfl rfl (by omega)) ?_
  refine guard_yes rfl rfl (not_decide_n hc1) ?_
  refine ops_y hH rfl rfl (yv_neqS rfl rfl) ?_
  refine ops_y hH rfl rfl (yv_pick_f rfl (not_decide_n hc1) rfl) ?_
  refine ops_nil (thn_n ?_)
  by_cases hc2 : (l.take 4) = ([115, 117, 109, 32] : List UInt8)
  ·skip
   refine cond_f rfl (not_decide_n hc2) ?_
   refine skip (thn_n (seq ?_))
   have hl20 : l.length = 20 := by omega
   have ht4 : l.take 4 = [115, 117, 109, 32] := by first | assumption | exact Decidable.not_not.1 ‹_›
   refine region (ops_y hH rfl rfl (yv_assign rfl) (ops_nil (thn_n (seq (seq (region (ops_y hH rfl rfl (yv_assign rfl) (ops_nil (thn_n ?_)))))))))
   refine block ?_
   refine loop (S := Nat) (fun k => [(4, (.int .u64 (B.hexV ((l.take k).drop 4) : Int))), (5, (.int .i64 (k : Int))), (0, (str l))]) (fun k w1 => Heap [base w] w1 ∧ k ≤ 20 ∧ 4 ≤ k ∧ ∀ i : Nat, i < k → 4 ≤ i → B.hxAt l i) (fun k => 20 - k) (4) (Sub.cons (congrArg (fun z : Int => some (Value.int .u64 z)) (by rw [List.drop_eq_nil_of_le (by rw [List.length_take]; omega)]; rfl)) (Sub.cons rfl (Sub.cons rfl (Sub.nil _)))) ?_ ?_
   ·exact ⟨hH, by omega, by omega, fun i h h2 => by omega⟩
   ·rintro k w3 ⟨hH4, hk, hk4, hall⟩
    show Holds _ _ _ _ _ [(4, (.int .u64 (B.hexV ((l.take k).drop 4) : Int))), (5, (.int .i64 (k : Int))), (0, (str l))] _ _
    refine seq (seq (region (ops_y hH4 rfl rfl (yv_move rfl) ?_)))
    refine ops_y hH4 rfl rfl (yv_lss rfl rfl) ?_
    refine ops_nil (thn_n ?_)
    by_cases hc5 : (k : Int) < 20
    ·skip
     refine cond_t rfl (decide_eq_true hc5) ?_
     refine skip (thn_n (seq (block (seq ?_))))
     have hbb := @byteAt_bd l (k : Int)
     have hvb := B.hex_bd (k := k) (by omega) hl20 hall
     refine region (ops_y hH4 rfl rfl (yv_move rfl) (ops_y hH4 rfl rfl (yv_move rfl) ?_))
     refine ops_y hH4 rfl rfl (yv_idxS Tryz.underlying9 rfl rfl (by omega)) ?_
     refine ops_y hH4 rfl rfl (yv_assign rfl) (ops_nil (thn_n (seq (region (ops_y hH4 rfl rfl (yv_move rfl) ?_)))))
     refine ops_y hH4 rfl rfl (yv_geq rfl rfl) ?_
     refine ops_y hH4 rfl rfl (yv_move rfl) ?_
     by_cases hc6 : 48 ≤ (byteAt l (k : Int))
     ·skip
      refine guard_yes rfl rfl (decide_eq_true hc6) ?_
      refine ops_y hH4 rfl rfl (yv_move rfl) ?_
      refine guard_yes rfl rfl (decide_eq_true hc6) ?_
      refine ops_y hH4 rfl rfl (yv_leq rfl rfl) ?_
      refine ops_y hH4 rfl rfl (yv_pick_t rfl (decide_eq_true hc6) rfl) ?_
      refine ops_nil (thn_n ?_)
      by_cases hc7 : (byteAt l (k : Int)) ≤ 57
      ·skip
       refine cond_t rfl (decide_eq_true hc7) ?_
       refine region (ops_y hH4 rfl rfl (yv_move rfl) ?_)
       refine ops_y hH4 rfl rfl (yv_mulK rfl rfl (wrap_u64 (by omega))) ?_
       refine ops_y hH4 rfl rfl (yv_move rfl) ?_
       refine ops_y hH4 rfl rfl (yv_subK rfl rfl (wrap_u8 (by omega))) ?_
       refine ops_y hH4 rfl rfl (yv_conv Tryz.underlying5 Tryz.underlying32 rfl (wrap_u64 (by omega))) ?_
       refine ops_y hH4 rfl rfl (yv_addK rfl rfl (wrap_u64 (by omega))) ?_
       refine ops_y hH4 rfl rfl (yv_assign rfl) (ops_nil (blk_n (thn_n (region (ops_y hH4 rfl rfl (yv_move rfl) ?_)))))
       refine ops_y hH4 rfl rfl (yv_add rfl rfl (by omega)) ?_
       refine ops_y hH4 rfl rfl (yv_assign rfl) (ops_nil ?_)
       refine lp_n (k + 1) (Sub.cons (congrArg (fun z : Int => some (Value.int .u64 z)) (by first | exact (B.hex_a (by omega) (by omega) (by omega)).symm | exact (B.hex_b (by omega) (by omega) (by omega)).symm)) (Sub.cons rfl (Sub.cons rfl (Sub.nil _)))) ?_ ?_
       ·exact ⟨hH4, by omega, by omega, B.all_snoc hall (fun _ => by unfold B.hxAt; omega)⟩
       ·first | (dsimp only; omega) | (show _ < _; omega)
      ·skip
       refine cond_f rfl (decide_eq_false hc7) ?_
       refine seq (region (ops_y hH4 rfl rfl (yv_move rfl) ?_))
       refine ops_y hH4 rfl rfl (yv_geq rfl rfl) ?_
       refine ops_y hH4 rfl rfl (yv_move rfl) ?_
       by_cases hc8 : 97 ≤ (byteAt l (k : Int))
       ·skip
        refine guard_yes rfl rfl (decide_eq_true hc8) ?_
        refine ops_y hH4 rfl rfl (yv_move rfl) ?_
        refine guard_yes rfl rfl (decide_eq_true hc8) ?_
        refine ops_y hH4 rfl rfl (yv_leq rfl rfl) ?_
        refine ops_y hH4 rfl rfl (yv_pick_t rfl (decide_eq_true hc8) rfl) ?_
        refine ops_nil (thn_n ?_)
        by_cases hc9 : (byteAt l (k : Int)) ≤ 102
        ·skip
         refine cond_t rfl (decide_eq_true hc9) ?_
         refine region (ops_y hH4 rfl rfl (yv_move rfl) ?_)
         refine ops_y hH4 rfl rfl (yv_mulK rfl rfl (wrap_u64 (by omega))) ?_
         refine ops_y hH4 rfl rfl (yv_move rfl) ?_
         refine ops_y hH4 rfl rfl (yv_subK rfl rfl (wrap_u8 (by omega))) ?_
         refine ops_y hH4 rfl rfl (yv_conv Tryz.underlying5 Tryz.underlying32 rfl (wrap_u64 (by omega))) ?_
         refine ops_y hH4 rfl rfl (yv_addK rfl rfl (wrap_u64 (by omega))) ?_
         refine ops_y hH4 rfl rfl (yv_addK rfl rfl (wrap_u64 (by omega))) ?_
         refine ops_y hH4 rfl rfl (yv_assign rfl) (ops_nil (blk_n (thn_n (region (ops_y hH4 rfl rfl (yv_move rfl) ?_)))))
         refine ops_y hH4 rfl rfl (yv_add rfl rfl (by omega)) ?_
         refine ops_y hH4 rfl rfl (yv_assign rfl) (ops_nil ?_)
         refine lp_n (k + 1) (Sub.cons (congrArg (fun z : Int => some (Value.int .u64 z)) (by first | exact (B.hex_a (by omega) (by omega) (by omega)).symm | exact (B.hex_b (by omega) (by omega) (by omega)).symm)) (Sub.cons rfl (Sub.cons rfl (Sub.nil _)))) ?_ ?_
         ·exact ⟨hH4, by omega, by omega, B.all_snoc hall (fun _ => by unfold B.hxAt; omega)⟩
         ·first | (dsimp only; omega) | (show _ < _; omega)
        ·skip
         refine cond_f rfl (decide_eq_false hc9) ?_
         refine seq ?_
         have hnn : ¬ B.Hx l := B.hx_not (k := k) (by omega) hk4 (by unfold B.hxAt; omega)
         refine region (ops_y hH4 rfl rfl (yv_assign rfl) (ops_y hH4 rfl rfl (yv_assign rfl) (ops_nil (thn_n (ret (blk_r (thn_r (lp_r (blk_r ?_)))))))))
         refine thn_r ?_
         refine fin hH4 (fun w' hf => (res2 rfl (show RV _ _ _ (.tmp 2) _ from rfl) (show RV _ _ _ (.tmp 3) _ from rfl))) (fun w' hf => ?_)
         first | exact tupQ (B.sumQ_f hnn) | exact tupQ (B.sumQ_eq hhx hke)
       ·skip
        refine guard_no rfl rfl (decide_eq_false hc8) rfl ?_
        refine guard_no rfl rfl (decide_eq_false hc8) rfl ?_
        refine ops_y hH4 rfl rfl (yv_pick_f rfl (decide_eq_false hc8) rfl) ?_
        refine ops_nil (thn_n ?_)
        refine cond_f rfl rfl ?_
        refine seq ?_
        have hnn : ¬ B.Hx l := B.hx_not (k := k) (by omega) hk4 (by unfold B.hxAt; omega)
        refine region (ops_y hH4 rfl rfl (yv_assign rfl) (ops_y hH4 rfl rfl (yv_assign rfl) (ops_nil (thn_n (ret (blk_r (thn_r (lp_r (blk_r ?_)))))))))
        refine thn_r ?_
        refine fin hH4 (fun w' hf => (res2 rfl (show RV _ _ _ (.tmp 2) _ from rfl) (show RV _ _ _ (.tmp 3) _ from rfl))) (fun w' hf => ?_)
        first | exact tupQ (B.sumQ_f hnn) | exact tupQ (B.sumQ_eq hhx hke)
     ·skip
      refine guard_no rfl rfl (decide_eq_false hc6) rfl ?_
      refine guard_no rfl rfl (decide_eq_false hc6) rfl ?_
      refine ops_y hH4 rfl rfl (yv_pick_f rfl (decide_eq_false hc6) rfl) ?_
      refine ops_nil (thn_n ?_)
      refine cond_f rfl rfl ?_
      refine seq (region (ops_y hH4 rfl rfl (yv_move rfl) ?_))
      refine ops_y hH4 rfl rfl (yv_geq rfl rfl) ?_
      refine ops_y hH4 rfl rfl (yv_move rfl) ?_
      by_cases hc10 : 97 ≤ (byteAt l (k : Int))
      ·skip
       refine guard_yes rfl rfl (decide_eq_true hc10) ?_
       refine ops_y hH4 rfl rfl (yv_move rfl) ?_
       refine guard_yes rfl rfl (decide_eq_true hc10) ?_
       refine ops_y hH4 rfl rfl (yv_leq rfl rfl) ?_
       refine ops_y hH4 rfl rfl (yv_pick_t rfl (decide_eq_true hc10) rfl) ?_
       refine ops_nil (thn_n ?_)
       by_cases hc11 : (byteAt l (k : Int)) ≤ 102
       ·skip
        refine cond_t rfl (decide_eq_true hc11) ?_
        refine region (ops_y hH4 rfl rfl (yv_move rfl) ?_)
        refine ops_y hH4 rfl rfl (yv_mulK rfl rfl (wrap_u64 (by omega))) ?_
        refine ops_y hH4 rfl rfl (yv_move rfl) ?_
        refine ops_y hH4 rfl rfl (yv_subK rfl rfl (wrap_u8 (by omega))) ?_
        refine ops_y hH4 rfl rfl (yv_conv Tryz.underlying5 Tryz.underlying32 rfl (wrap_u64 (by omega))) ?_
        refine ops_y hH4 rfl rfl (yv_addK rfl rfl (wrap_u64 (by omega))) ?_
        refine ops_y hH4 rfl rfl (yv_addK rfl rfl (wrap_u64 (by omega))) ?_
        refine ops_y hH4 rfl rfl (yv_assign rfl) (ops_nil (blk_n (thn_n (region (ops_y hH4 rfl rfl (yv_move rfl) ?_)))))
        refine ops_y hH4 rfl rfl (yv_add rfl rfl (by omega)) ?_
        refine ops_y hH4 rfl rfl (yv_assign rfl) (ops_nil ?_)
        refine lp_n (k + 1) (Sub.cons (congrArg (fun z : Int => some (Value.int .u64 z)) (by first | exact (B.hex_a (by omega) (by omega) (by omega)).symm | exact (B.hex_b (by omega) (by omega) (by omega)).symm)) (Sub.cons rfl (Sub.cons rfl (Sub.nil _)))) ?_ ?_
        ·exact ⟨hH4, by omega, by omega, B.all_snoc hall (fun _ => by unfold B.hxAt; omega)⟩
        ·first | (dsimp only; omega) | (show _ < _; omega)
       ·skip
        refine cond_f rfl (decide_eq_false hc11) ?_
        refine seq ?_
        have hnn : ¬ B.Hx l := B.hx_not (k := k) (by omega) hk4 (by unfold B.hxAt; omega)
        refine region (ops_y hH4 rfl rfl (yv_assign rfl) (ops_y hH4 rfl rfl (yv_assign rfl) (ops_nil (thn_n (ret (blk_r (thn_r (lp_r (blk_r ?_)))))))))
        refine thn_r ?_
        refine fin hH4 (fun w' hf => (res2 rfl (show RV _ _ _ (.tmp 2) _ from rfl) (show RV _ _ _ (.tmp 3) _ from rfl))) (fun w' hf => ?_)
        first | exact tupQ (B.sumQ_f hnn) | exact tupQ (B.sumQ_eq hhx hke)
      ·skip
       refine guard_no rfl rfl (decide_eq_false hc10) rfl ?_
       refine guard_no rfl rfl (decide_eq_false hc10) rfl ?_
       refine ops_y hH4 rfl rfl (yv_pick_f rfl (decide_eq_false hc10) rfl) ?_
       refine ops_nil (thn_n ?_)
       refine cond_f rfl rfl ?_
       refine seq ?_
       have hnn : ¬ B.Hx l := B.hx_not (k := k) (by omega) hk4 (by unfold B.hxAt; omega)
       refine region (ops_y hH4 rfl rfl (yv_assign rfl) (ops_y hH4 rfl rfl (yv_assign rfl) (ops_nil (thn_n (ret (blk_r (thn_r (lp_r (blk_r ?_)))))))))
       refine thn_r ?_
       refine fin hH4 (fun w' hf => (res2 rfl (show RV _ _ _ (.tmp 2) _ from rfl) (show RV _ _ _ (.tmp 3) _ from rfl))) (fun w' hf => ?_)
       first | exact tupQ (B.sumQ_f hnn) | exact tupQ (B.sumQ_eq hhx hke)
    ·skip
     refine cond_f rfl (decide_eq_false hc5) ?_
     refine exit (thn_x (lp_x (blk_here (thn_n (seq ?_)))))
     have hhx : B.Hx l := B.hx_all hl20 ht4 (fun i hi => hall i (by omega))
     have hke : k = 20 := by omega
     refine region (ops_y hH4 rfl rfl (yv_move rfl) (ops_y hH4 rfl rfl (yv_assign rfl) (ops_y hH4 rfl rfl (yv_assign rfl) (ops_nil (thn_n (ret ?_))))))
     refine fin hH4 (fun w' hf => (res2 rfl (show RV _ _ _ (.tmp 2) _ from rfl) (show RV _ _ _ (.tmp 3) _ from rfl))) (fun w' hf => ?_)
     first | exact tupQ (B.sumQ_f hnn) | exact tupQ (B.sumQ_eq hhx hke)
  ·skip
   refine cond_t rfl (not_decide_t hc2) ?_
   refine seq ?_
   have hnn : ¬ B.Hx l := by first | exact fun h => absurd h.1 (by omega) | exact fun h => absurd h.2.1 ‹_›
   refine region (ops_y hH rfl rfl (yv_assign rfl) (ops_y hH rfl rfl (yv_assign rfl) (ops_nil (thn_n (ret (thn_r ?_))))))
   refine fin hH (fun w' hf => (res2 rfl (show RV _ _ _ (.tmp 2) _ from rfl) (show RV _ _ _ (.tmp 3) _ from rfl))) (fun w' hf => ?_)
   first | exact tupQ (B.sumQ_f hnn) | exact tupQ (B.sumQ_eq hhx hke)
 ·skip
  refine guard_no rfl rfl (not_decide_t hc1) rfl ?_
  refine guard_no rfl rfl (not_decide_t hc1) rfl ?_
  refine guard_no rfl rfl (not_decide_t hc1) rfl ?_
  refine ops_y hH rfl rfl (yv_pick_t rfl (not_decide_t hc1) rfl) ?_
  refine ops_nil (thn_n ?_)
  refine cond_t rfl rfl ?_
  refine seq ?_
  have hnn : ¬ B.Hx l := by first | exact fun h => absurd h.1 (by omega) | exact fun h => absurd h.2.1 ‹_›
  refine region (ops_y hH rfl rfl (yv_assign rfl) (ops_y hH rfl rfl (yv_assign rfl) (ops_nil (thn_n (ret (thn_r ?_))))))
  refine fin hH (fun w' hf => (res2 rfl (show RV _ _ _ (.tmp 2) _ from rfl) (show RV _ _ _ (.tmp 3) _ from rfl))) (fun w' hf => ?_)
  first | exact tupQ (B.sumQ_f hnn) | exact tupQ (B.sumQ_eq hhx hke)
def B.vals (ps : List (List UInt8)) (k : Nat) : List Int := (ps.take k).map B.valI ++ List.replicate (5 - k) 0
theorem B.vals_len {ps : List (List UInt8)} {k : Nat} (h : ps.length = 5) (hk : k ≤ 5) : (B.vals ps k).length = 5 := by unfold B.vals; simp; omega
theorem B.vals_step {ps : List (List UInt8)} {k : Nat} {x : Int} (h : ps.length = 5) (hk : k < 5) (e : x = B.valI (nth ps (k : Int))) : (B.vals ps k).set k x = B.vals ps (k + 1) := by
 have h1 : ((ps.take k).map B.valI).length = k := by simp; omega
 unfold B.vals
 rw [List.set_append_right _ _ (by omega), h1, Nat.sub_self, show 5 - k = (5 - (k + 1)) + 1 by omega, List.replicate_succ, List.set_cons_zero, List.take_succ_eq_append_getElem (by omega), List.map_append, List.append_assoc, e, nth_nat (by omega)]; rfl
theorem B.vals_all {ps : List (List UInt8)} {k : Nat} (h : ps.length = 5) (hk : k = 5) : B.vals ps k = ps.map B.valI := by
 subst hk; unfold B.vals; rw [List.take_of_length_le (by omega)]; simp
theorem c93 {l : List UInt8} {w : World} (hn : l.length ≤ 1000)  :
  Fn Tryz.prog 93 [(str l)].toArray w (fun u _ => u = .tuple #[(.agg #[(.int .i64 ((B.entR l).1.n)), (.int .i64 ((B.entR l).1.d)), (.int .i64 ((B.entR l).1.f)), (.int .i64 ((B.entR l).1.t)), (.int .i64 ((B.entR l).1.a))]), .bool (B.entR l).2]) := by
 refine fn_of' (args := [(str l)]) Tryz.func93 rfl (ent Tryz.func93 (by kernel_rfl) rfl) rfl rfl (fun hH => ?_)
 refine seq (region ?_)
 refine op_alloc (z := (.agg #[(.int .i64 0), (.int .i64 0), (.int .i64 0), (.int .i64 0), (.int .i64 0)])) (us := [(.int .i64 0), (.int .i64 0), (.int .i64 0), (.int .i64 0), (.int .i64 0)]) (fun _ => by kernel_rfl) rfl rfl hH (fun b1 w2 hH3 => ?_)
 refine ops_y hH3 rfl rfl (yv_assign rfl) (ops_nil (thn_n (seq (region (ops_y hH3 rfl rfl (yv_move rfl) ?_)))))
 refine op_fn rfl rfl rfl hH3 (c92 (l := l) (c := 32) (by omega)) (fun u6 w4 lo7 hi8 hH5 hv9 => ?_)
 have hH10 := Heap.toOw hH5 (n := 0) rfl
 refine ops_y hH10 rfl rfl (yv_assign rfl) (ops_nil (thn_n (seq (seq ?_))))
 have hsl := B.sp_len 32 l
 have hsp := B.sp_len_pos 32 l
 refine region (ops_y hH10 rfl rfl (yv_move rfl) ?_)
 refine ops_y hH10 rfl rfl (yv_len T.sl56 rfl (Heap.rdw T.el56_encT hH10 (n := 0) rfl).is) ?_
 refine ops_y hH10 rfl rfl (yv_neq rfl rfl) ?_
 refine ops_nil (thn_n ?_)
 by_cases hc11 : ((B.sp 32 l).length : Int) = 5
 ·skip
  refine cond_f rfl (not_decide_n hc11) ?_
  refine skip (thn_n (seq ?_))
  have hl5 : (B.sp 32 l).length = 5 := by omega
  refine region ?_
  refine op_alloc (z := (.agg #[(.int .i64 0), (.int .i64 0), (.int .i64 0), (.int .i64 0), (.int .i64 0)])) (us := [(.int .i64 0), (.int .i64 0), (.int .i64 0), (.int .i64 0), (.int .i64 0)]) (fun _ => by kernel_rfl) rfl rfl hH10 (fun b12 w13 hH14 => ?_)
  refine ops_nil (thn_n (seq (seq ?_)))
  have hH15 := Heap.recastBx hH14 (n := 0) rfl (show [(.int .i64 0), (.int .i64 0), (.int .i64 0), (.int .i64 0), (.int .i64 0)] = ints (B.vals (B.sp 32 l) 0) from rfl)
  refine region (ops_y hH15 rfl rfl (yv_assign rfl) (ops_nil (thn_n (block ?_))))
  refine loop (S := Nat) (fun k => [(6, (.int .i64 (k : Int))), (2, (.pointer (some ⟨b1, 0, none⟩))), (4, u6), (5, (.pointer (some ⟨b12, 0, none⟩)))]) (fun k w1 => Heap [bx b12 165 (ints (B.vals (B.sp 32 l) k)), ow lo7 hi8 9 1 encT u6 (B.sp 32 l), bx b1 38 [(.int .i64 0), (.int .i64 0), (.int .i64 0), (.int .i64 0), (.int .i64 0)], base w] w1 ∧ k ≤ 5 ∧ k ≤ (B.sp 32 l).length ∧ ∀ i : Nat, i < k → B.Num (nth (B.sp 32 l) (i : Int))) (fun k => 5 - k) (0) (Sub.cons rfl (Sub.cons rfl (Sub.cons rfl (Sub.cons rfl (Sub.nil _))))) ?_ ?_
  ·exact ⟨hH15, by omega, by omega, fun i h => by omega⟩
  ·rintro k w16 ⟨hH17, hk5, hk, hall⟩
   show Holds _ _ _ _ _ [(6, (.int .i64 (k : Int))), (2, (.pointer (some ⟨b1, 0, none⟩))), (4, u6), (5, (.pointer (some ⟨b12, 0, none⟩)))] _ _
   refine seq (seq (region (ops_y hH17 rfl rfl (yv_move rfl) ?_)))
   refine ops_y hH17 rfl rfl (yv_lss rfl rfl) ?_
   refine ops_nil (thn_n ?_)
   by_cases hc18 : (k : Int) < 5
   ·skip
    refine cond_t rfl (decide_eq_true hc18) ?_
    refine skip (thn_n (seq (block (seq ?_))))
    have hpl := B.sp_nth_len (c := 32) (l := l) (k := k) (by omega)
    have hvl := B.vals_len (k := k) hl5 hk5
    refine region (ops_y hH17 rfl rfl (yv_move rfl) (ops_y hH17 rfl rfl (yv_move rfl) ?_))
    refine ops_y hH17 rfl rfl (yv_index T.sl56 rfl rfl (Heap.rdw T.el56_encT hH17 (n := 1) rfl).is (by omega)) ?_
    refine ops_y hH17 rfl rfl (yv_load T.one9 rfl (fun _ hw => Rd.at (Heap.rdw T.el56_encT hw (n := 1) rfl) (i := (k : Int)) (by omega) (j := 0) rfl)) ?_
    refine op_fn rfl rfl rfl hH17 (c128 (l := (nth (B.sp 32 l) (k : Int))) (by omega)) (fun u23 w21 lo24 hi25 hH22 hv26 => ?_)
    obtain ⟨nv19, hu, hnv20⟩ := hv26
    subst hu
    have hH27 := hH22.sub (List.sublist_cons_self _ _)
    refine ops_y hH27 rfl rfl (yv_move rfl) (ops_y hH27 rfl rfl (yv_extract rfl rfl) (ops_y hH27 rfl rfl (yv_extract rfl rfl) (ops_y hH27 rfl rfl (yv_assign rfl) (ops_y hH27 rfl rfl (yv_assign rfl) (ops_nil (thn_n (seq (seq (region ?_)))))))))
    refine ops_y hH27 rfl rfl (yv_move rfl) ?_
    refine ops_y hH27 rfl rfl (yv_not rfl) ?_
    refine ops_nil (thn_n ?_)
    by_cases hc28 : B.Num (nth (B.sp 32 l) (k : Int))
    ·skip
     refine cond_f rfl (not_decide_n hc28) ?_
     refine skip (thn_n ?_)
     have hnk : B.Num (nth (B.sp 32 l) (k : Int)) := by first | assumption | exact Decidable.not_not.1 ‹_›
     have hvk : nv19 = B.valI (nth (B.sp 32 l) (k : Int)) := hnv20 hnk
     refine region (ops_y hH27 rfl rfl (yv_move rfl) (ops_y hH27 rfl rfl (yv_move rfl) ?_))
     refine ops_y hH27 rfl rfl (yv_indexA T.arr165 rfl rfl (by omega)) ?_
     refine op_setA (n := 0) rfl rfl hH27 rfl T.sz2 (by omega) (fun w29 hH30 => ?_)
     refine ops_nil (blk_n (thn_n (region (ops_y hH30 rfl rfl (yv_move rfl) ?_))))
     refine ops_y hH30 rfl rfl (yv_add rfl rfl (by omega)) ?_
     refine ops_y hH30 rfl rfl (yv_assign rfl) (ops_nil ?_)
     refine lp_n (k + 1) (Sub.cons rfl (Sub.cons rfl (Sub.cons rfl (Sub.cons rfl (Sub.nil _))))) ?_ ?_
     ·exact ⟨(Heap.recastBx (n := 0) hH30 rfl (congrArg ints (B.vals_step hl5 (by omega) hvk))), by omega, by omega, B.all_snoc hall hnk⟩
     ·first | (dsimp only; omega) | (show _ < _; omega)
    ·skip
     refine cond_t rfl (not_decide_t hc28) ?_
     refine seq ?_
     have hnn : ¬ B.IsEnt (B.sp 32 l) := B.ent_not (k := k) (by omega) (by first | assumption | exact fun h => absurd h ‹_›)
     refine region ?_
     refine ops_y hH27 rfl rfl (yv_build (v := (.agg #[(.int .i64 0), (.int .i64 0), (.int .i64 0), (.int .i64 0), (.int .i64 0)])) (us := []) (fun a ha => by simp []) (fun w => by kernel_rfl)) ?_
     refine op_store (n := 2) (j := 0) (us := [(.int .i64 0), (.int .i64 0), (.int .i64 0), (.int .i64 0), (.int .i64 0)]) rfl rfl hH27 rfl T.sz38 rfl rfl rfl (by rfl) (fun w31 hH32 => ?_)
     refine ops_y hH32 rfl rfl (yv_assign rfl) (ops_nil (thn_n (ret (thn_r (blk_r (thn_r (lp_r (blk_r (thn_r ?_)))))))))
     have hH33 := (hH32.sub (List.Sublist.cons _ (List.Sublist.cons _ (List.Sublist.refl _))))
     refine fin (hH33.front (n := 1) rfl) (fun w' hf => (res2 rfl (rvA (cs := [(.int .i64 0), (.int .i64 0), (.int .i64 0), (.int .i64 0), (.int .i64 0)]) rfl T.agg38 rfl (bx_cells (Heap.bxw hf (n := 1) rfl) (k := 0) rfl)) (show RV _ _ _ (.tmp 3) _ from rfl))) (fun w' hf => ?_)
     first | (rw [B.entR_f hnn]) | (rw [B.entR_t hie, ← hva]; rfl)
   ·skip
    refine cond_f rfl (decide_eq_false hc18) ?_
    refine exit (thn_x (lp_x (blk_here (thn_n (seq ?_)))))
    have hke : k = 5 := by omega
    have hvl := B.vals_len (k := k) hl5 hk5
    have hie : B.IsEnt (B.sp 32 l) := B.ent_all hl5 (fun i hi => hall i (by omega))
    have hva := B.vals_all hl5 hke
    refine region ?_
    refine ops_y hH17 rfl rfl (yv_indexA T.arr165 rfl rfl (by omega)) ?_
    refine ops_y hH17 rfl rfl (yv_loadE T.one2 rfl (by omega) (fun _ hw => Heap.bxw hw (n := 0) rfl)) ?_
    refine ops_y hH17 rfl rfl (yv_indexA T.arr165 rfl rfl (by omega)) ?_
    refine ops_y hH17 rfl rfl (yv_loadE T.one2 rfl (by omega) (fun _ hw => Heap.bxw hw (n := 0) rfl)) ?_
    refine ops_y hH17 rfl rfl (yv_indexA T.arr165 rfl rfl (by omega)) ?_
    refine ops_y hH17 rfl rfl (yv_loadE T.one2 rfl (by omega) (fun _ hw => Heap.bxw hw (n := 0) rfl)) ?_
    refine ops_y hH17 rfl rfl (yv_indexA T.arr165 rfl rfl (by omega)) ?_
    refine ops_y hH17 rfl rfl (yv_loadE T.one2 rfl (by omega) (fun _ hw => Heap.bxw hw (n := 0) rfl)) ?_
    refine ops_y hH17 rfl rfl (yv_indexA T.arr165 rfl rfl (by omega)) ?_
    refine ops_y hH17 rfl rfl (yv_loadE T.one2 rfl (by omega) (fun _ hw => Heap.bxw hw (n := 0) rfl)) ?_
    refine ops_y hH17 rfl rfl (yv_build (v := (.agg #[(.int .i64 (nth (B.vals (B.sp 32 l) k) 0)), (.int .i64 (nth (B.vals (B.sp 32 l) k) 1)), (.int .i64 (nth (B.vals (B.sp 32 l) k) 2)), (.int .i64 (nth (B.vals (B.sp 32 l) k) 3)), (.int .i64 (nth (B.vals (B.sp 32 l) k) 4))])) (us := [(0, (.int .i64 (nth (B.vals (B.sp 32 l) k) 0))), (1, (.int .i64 (nth (B.vals (B.sp 32 l) k) 1))), (2, (.int .i64 (nth (B.vals (B.sp 32 l) k) 2))), (3, (.int .i64 (nth (B.vals (B.sp 32 l) k) 3))), (4, (.int .i64 (nth (B.vals (B.sp 32 l) k) 4)))]) (fun a ha => by simp [ha.ev (show ev _ (.tmp 34) = some _ from rfl), ha.ev (show ev _ (.tmp 36) = some _ from rfl), ha.ev (show ev _ (.tmp 38) = some _ from rfl), ha.ev (show ev _ (.tmp 40) = some _ from rfl), ha.ev (show ev _ (.tmp 42) = some _ from rfl)]) (fun w => by kernel_rfl)) ?_
    refine op_store (n := 2) (j := 0) (us := [(.int .i64 (nth (B.vals (B.sp 32 l) k) 0)), (.int .i64 (nth (B.vals (B.sp 32 l) k) 1)), (.int .i64 (nth (B.vals (B.sp 32 l) k) 2)), (.int .i64 (nth (B.vals (B.sp 32 l) k) 3)), (.int .i64 (nth (B.vals (B.sp 32 l) k) 4))]) rfl rfl hH17 rfl T.sz38 rfl rfl rfl (by rfl) (fun w34 hH35 => ?_)
    refine ops_y hH35 rfl rfl (yv_assign rfl) (ops_nil (thn_n (ret ?_)))
    have hH36 := (hH35.sub (List.Sublist.cons _ (List.Sublist.cons _ (List.Sublist.refl _))))
    refine fin (hH36.front (n := 1) rfl) (fun w' hf => (res2 rfl (rvA (cs := [(.int .i64 (nth (B.vals (B.sp 32 l) k) 0)), (.int .i64 (nth (B.vals (B.sp 32 l) k) 1)), (.int .i64 (nth (B.vals (B.sp 32 l) k) 2)), (.int .i64 (nth (B.vals (B.sp 32 l) k) 3)), (.int .i64 (nth (B.vals (B.sp 32 l) k) 4))]) rfl T.agg38 rfl (bx_cells (Heap.bxw hf (n := 1) rfl) (k := 0) rfl)) (show RV _ _ _ (.tmp 3) _ from rfl))) (fun w' hf => ?_)
    first | (rw [B.entR_f hnn]) | (rw [B.entR_t hie, ← hva]; rfl)
 ·skip
  refine cond_t rfl (not_decide_t hc11) ?_
  refine seq ?_
  have hnn : ¬ B.IsEnt (B.sp 32 l) := fun h => absurd h.1 (by omega)
  refine region ?_
  refine ops_y hH10 rfl rfl (yv_build (v := (.agg #[(.int .i64 0), (.int .i64 0), (.int .i64 0), (.int .i64 0), (.int .i64 0)])) (us := []) (fun a ha => by simp []) (fun w => by kernel_rfl)) ?_
  refine op_store (n := 1) (j := 0) (us := [(.int .i64 0), (.int .i64 0), (.int .i64 0), (.int .i64 0), (.int .i64 0)]) rfl rfl hH10 rfl T.sz38 rfl rfl rfl (by rfl) (fun w37 hH38 => ?_)
  refine ops_y hH38 rfl rfl (yv_assign rfl) (ops_nil (thn_n (ret (thn_r ?_))))
  have hH39 := (hH38.sub (List.Sublist.cons _ (List.Sublist.refl _)))
  refine fin (hH39.front (n := 1) rfl) (fun w' hf => (res2 rfl (rvA (cs := [(.int .i64 0), (.int .i64 0), (.int .i64 0), (.int .i64 0), (.int .i64 0)]) rfl T.agg38 rfl (bx_cells (Heap.bxw hf (n := 1) rfl) (k := 0) rfl)) (show RV _ _ _ (.tmp 3) _ from rfl))) (fun w' hf => ?_)
  first | (rw [B.entR_f hnn]) | (rw [B.entR_t hie, ← hva]; rfl)
end Go.Fip
namespace Go.Fip.B
open Go.Fip
theorem sumQ_2 {l : List UInt8} : (sumQ l).2 = true ↔ Hx l := by
  by_cases h : Hx l
  · rw [sumQ_t h]; simp [h]
  · rw [sumQ_f h]; simp [h]
theorem sumQ_1 {l : List UInt8} (h : Hx l) : (sumQ l).1 = (hexV (l.drop 4) : Int) := by rw [sumQ_t h]
end Go.Fip.B
namespace Go.Fip
open Go.Proofs Go.RowKit
theorem c41 {l : List UInt8} {w : World} (hn : l.length ≤ 100000)  :
  Fn Tryz.prog 41 [(str l)].toArray w (fun u w => ∃ p, u = .tuple #[.agg #[p], .int .i64 (B.loadR l).2] ∧ Rd encE 5 p (B.loadR l).1 w) := by
 refine fn_of' (args := [(str l)]) Tryz.func41 rfl (ent Tryz.func41 (by kernel_rfl) rfl) rfl rfl (fun hH => ?_)
 refine seq (region ?_)
 refine op_alloc (z := (.agg #[(.slice none 0 0)])) (us := [(.slice none 0 0)]) (fun _ => by kernel_rfl) rfl rfl hH (fun b1 w2 hH3 => ?_)
 refine ops_y hH3 rfl rfl (yv_assign rfl) (ops_nil (thn_n (seq (seq (region (ops_y hH3 rfl rfl (yv_move rfl) ?_))))))
 refine ops_y hH3 rfl rfl (yv_lenS Tryz.underlying9 rfl) ?_
 refine ops_y hH3 rfl rfl (yv_gtr rfl rfl) ?_
 refine ops_nil (thn_n ?_)
 by_cases hc4 : 1000 < (l.length : Int)
 ·skip
  refine cond_t rfl (decide_eq_true hc4) ?_
  refine seq (region ?_)
  refine ops_y hH3 rfl rfl (yv_build (v := (.agg #[(.slice none 0 0)])) (us := []) (fun a ha => by simp []) (fun w => by kernel_rfl)) ?_
  refine op_store (n := 0) (j := 0) (us := [(.slice none 0 0)]) rfl rfl hH3 rfl T.sz24 rfl rfl rfl (by rfl) (fun w5 hH6 => ?_)
  refine ops_y hH6 rfl rfl (yv_assign rfl) (ops_nil (thn_n (ret (thn_r ?_))))
  refine fin (hH6.front (n := 1) rfl) (fun w' hf => (res2 rfl (rvA (cs := [(.slice none 0 0)]) rfl T.agg24 rfl (bx_cells (Heap.bxw hf (n := 1) rfl) (k := 0) rfl)) (show RV _ _ _ (.tmp 3) _ from rfl))) (fun w' hf => ?_)
  first | (rw [B.lo7 (by omega)]; exact ⟨_, rfl, Rd.nil⟩) | (rw [B.lo8a hl1 hns]; exact ⟨_, rfl, Rd.nil⟩) | (rw [B.lo8b hl1 hsh hnn]; exact ⟨_, rfl, Rd.nil⟩) | (rw [B.lo8c hl1 hsh hae hnx]; exact ⟨_, rfl, Rd.nil⟩) | (rw [B.lock hl1 hsh hae hhx (by rw [← hes]; exact hck)]; rw [← hes]; exact ⟨_, rfl, Rd.nil⟩) | (rw [B.lo14 hl1 hsh hae hhx (by rw [← hes]; exact hc0) (by rw [← hes]; exact hrn)]; exact ⟨_, rfl, Rd.nil⟩) | (rw [B.look hl1 hsh hae hhx (by rw [← hes]; exact hc0) (by rw [← hes]; exact hrt)]; rw [← hes]; exact ⟨_, rfl, Heap.rdw T.el22_encE hf (n := 0) rfl⟩)
 ·skip
  refine cond_f rfl (decide_eq_false hc4) ?_
  refine skip (thn_n (seq ?_))
  have hl1 : ¬ 1000 < l.length := by omega
  refine region (ops_y hH3 rfl rfl (yv_move rfl) ?_)
  refine op_fn rfl rfl rfl hH3 (c92 (l := l) (c := 10) (by omega)) (fun u9 w7 lo10 hi11 hH8 hv12 => ?_)
  have hH13 := Heap.toOw hH8 (n := 0) rfl
  refine ops_y hH13 rfl rfl (yv_assign rfl) (ops_nil (thn_n (seq (seq ?_))))
  have hsl := B.sp_len 10 l
  have hsp := B.sp_len_pos 10 l
  refine region (ops_y hH13 rfl rfl (yv_move rfl) ?_)
  refine ops_y hH13 rfl rfl (yv_len T.sl56 rfl (Heap.rdw T.el56_encT hH13 (n := 0) rfl).is) ?_
  refine ops_y hH13 rfl rfl (yv_lss rfl rfl) ?_
  refine ops_y hH13 rfl rfl (yv_move rfl) ?_
  by_cases hc14 : ((B.sp 10 l).length : Int) < 2
  ·skip
   refine guard_no rfl rfl (decide_eq_true hc14) rfl ?_
   refine guard_no rfl rfl (decide_eq_true hc14) rfl ?_
   refine guard_no rfl rfl (decide_eq_true hc14) rfl ?_
   refine guard_no rfl rfl (decide_eq_true hc14) rfl ?_
   refine guard_no rfl rfl (decide_eq_true hc14) rfl ?_
   refine guard_no rfl rfl (decide_eq_true hc14) rfl ?_
   refine guard_no rfl rfl (decide_eq_true hc14) rfl ?_
   refine ops_y hH13 rfl rfl (yv_pick_t rfl (decide_eq_true hc14) rfl) ?_
   refine ops_nil (thn_n ?_)
   refine cond_t rfl rfl ?_
   refine seq ?_
   have hns : ¬ B.shaped (B.sp 10 l) := by first | exact fun h => absurd h.1 (by omega) | exact fun h => absurd h.2 (by rw [show (((B.sp 10 l).length - 1 : Nat) : Int) = ((B.sp 10 l).length : Int) - 1 by omega]; assumption)
   refine region ?_
   refine ops_y hH13 rfl rfl (yv_build (v := (.agg #[(.slice none 0 0)])) (us := []) (fun a ha => by simp []) (fun w => by kernel_rfl)) ?_
   refine op_store (n := 1) (j := 0) (us := [(.slice none 0 0)]) rfl rfl hH13 rfl T.sz24 rfl rfl rfl (by rfl) (fun w15 hH16 => ?_)
   refine ops_y hH16 rfl rfl (yv_assign rfl) (ops_nil (thn_n (ret (thn_r ?_))))
   have hH17 := (hH16.sub (List.Sublist.cons _ (List.Sublist.refl _)))
   refine fin (hH17.front (n := 1) rfl) (fun w' hf => (res2 rfl (rvA (cs := [(.slice none 0 0)]) rfl T.agg24 rfl (bx_cells (Heap.bxw hf (n := 1) rfl) (k := 0) rfl)) (show RV _ _ _ (.tmp 3) _ from rfl))) (fun w' hf => ?_)
   first | (rw [B.lo7 (by omega)]; exact ⟨_, rfl, Rd.nil⟩) | (rw [B.lo8a hl1 hns]; exact ⟨_, rfl, Rd.nil⟩) | (rw [B.lo8b hl1 hsh hnn]; exact ⟨_, rfl, Rd.nil⟩) | (rw [B.lo8c hl1 hsh hae hnx]; exact ⟨_, rfl, Rd.nil⟩) | (rw [B.lock hl1 hsh hae hhx (by rw [← hes]; exact hck)]; rw [← hes]; exact ⟨_, rfl, Rd.nil⟩) | (rw [B.lo14 hl1 hsh hae hhx (by rw [← hes]; exact hc0) (by rw [← hes]; exact hrn)]; exact ⟨_, rfl, Rd.nil⟩) | (rw [B.look hl1 hsh hae hhx (by rw [← hes]; exact hc0) (by rw [← hes]; exact hrt)]; rw [← hes]; exact ⟨_, rfl, Heap.rdw T.el22_encE hf (n := 0) rfl⟩)
  ·skip
   refine guard_yes rfl rfl (decide_eq_false hc14) ?_
   refine ops_y hH13 rfl rfl (yv_move rfl) ?_
   refine guard_yes rfl rfl (decide_eq_false hc14) ?_
   refine ops_y hH13 rfl rfl (yv_move rfl) ?_
   refine guard_yes rfl rfl (decide_eq_false hc14) ?_
   refine ops_y hH13 rfl rfl (yv_len T.sl56 rfl (Heap.rdw T.el56_encT hH13 (n := 0) rfl).is) ?_
   refine guard_yes rfl rfl (decide_eq_false hc14) ?_
   refine ops_y hH13 rfl rfl (yv_sub rfl rfl (by omega)) ?_
   refine guard_yes rfl rfl (decide_eq_false hc14) ?_
   refine ops_y hH13 rfl rfl (yv_index T.sl56 rfl rfl (Heap.rdw T.el56_encT hH13 (n := 0) rfl).is (by omega)) ?_
   refine guard_yes rfl rfl (decide_eq_false hc14) ?_
   refine ops_y hH13 rfl rfl (yv_load T.one9 rfl (fun _ hw => Rd.at (Heap.rdw T.el56_encT hw (n := 0) rfl) (i := ((B.sp 10 l).length : Int) - 1) (by omega) (j := 0) rfl)) ?_
   refine guard_yes rfl rfl (decide_eq_false hc14) ?_
   refine ops_y hH13 rfl rfl (yv_neqS rfl rfl) ?_
   refine ops_y hH13 rfl rfl (yv_pick_f rfl (decide_eq_false hc14) rfl) ?_
   refine ops_nil (thn_n ?_)
   by_cases hc18 : (nth (B.sp 10 l) (((B.sp 10 l).length : Int) - 1)) = ([] : List UInt8)
   ·skip
    refine cond_f rfl (not_decide_n hc18) ?_
    refine skip (thn_n (seq ?_))
    have hsh : B.shaped (B.sp 10 l) := ⟨by omega, by rw [show (((B.sp 10 l).length - 1 : Nat) : Int) = ((B.sp 10 l).length : Int) - 1 by omega]; first | assumption | exact Decidable.not_not.1 ‹_›⟩
    refine region ?_
    refine op_alloc (z := (.agg #[(.slice none 0 0)])) (us := [(.slice none 0 0)]) (fun _ => by kernel_rfl) rfl rfl hH13 (fun b19 w20 hH21 => ?_)
    refine ops_nil (thn_n (seq (seq (region (ops_y hH21 rfl rfl (yv_assign rfl) (ops_nil (thn_n (block ?_))))))))
    have hH22 := ow_nil (enc := encE) 38 5 hH21
    refine loop (S := Nat × Value × Nat × Nat) (fun (k, v_b5, lo_b5, hi_b5) => [(6, (.int .i64 (k : Int))), (2, (.pointer (some ⟨b1, 0, none⟩))), (4, u9), (5, (.pointer (some ⟨b19, 0, none⟩)))]) (fun (k, v_b5, lo_b5, hi_b5) w1 => Heap [ow lo_b5 hi_b5 38 5 encE v_b5 (B.ents (B.sp 10 l) k), bx b19 24 [v_b5], ow lo10 hi11 9 1 encT u9 (B.sp 10 l), bx b1 24 [(.slice none 0 0)], base w] w1 ∧ k + 2 ≤ (B.sp 10 l).length ∧ ∀ i : Nat, i < k → (B.entR (nth (B.sp 10 l) (i : Int))).2 = true) (fun (k, v_b5, lo_b5, hi_b5) => (B.sp 10 l).length - k) (0, (.slice none 0 0), w20.heap.size, w20.heap.size) (Sub.cons rfl (Sub.cons rfl (Sub.cons rfl (Sub.cons rfl (Sub.nil _))))) ?_ ?_
    ·exact ⟨(Heap.recast (n := 0) hH22 rfl (rfl)), by (have := hsh.1; omega), fun i h => by omega⟩
    ·rintro ⟨k, v_b5, lo_b5, hi_b5⟩ w23 ⟨hH24, hk, hall⟩
     show Holds _ _ _ _ _ [(6, (.int .i64 (k : Int))), (2, (.pointer (some ⟨b1, 0, none⟩))), (4, u9), (5, (.pointer (some ⟨b19, 0, none⟩)))] _ _
     have hel := B.ents_len (ps := (B.sp 10 l)) (k := k) (by omega)
     refine seq (seq (region (ops_y hH24 rfl rfl (yv_move rfl) ?_)))
     refine ops_y hH24 rfl rfl (yv_add rfl rfl (by omega)) ?_
     refine ops_y hH24 rfl rfl (yv_move rfl) ?_
     refine ops_y hH24 rfl rfl (yv_len T.sl56 rfl (Heap.rdw T.el56_encT hH24 (n := 2) rfl).is) ?_
     refine ops_y hH24 rfl rfl (yv_lss rfl rfl) ?_
     refine ops_nil (thn_n ?_)
     by_cases hc25 : ((k : Int) + 2) < ((B.sp 10 l).length : Int)
     ·skip
      refine cond_t rfl (decide_eq_true hc25) ?_
      refine skip (thn_n (seq (block (seq ?_))))
      have hpl := B.sp_nth_len (c := 10) (l := l) (k := k) (by omega)
      refine region (ops_y hH24 rfl rfl (yv_move rfl) (ops_y hH24 rfl rfl (yv_move rfl) ?_))
      refine ops_y hH24 rfl rfl (yv_index T.sl56 rfl rfl (Heap.rdw T.el56_encT hH24 (n := 2) rfl).is (by omega)) ?_
      refine ops_y hH24 rfl rfl (yv_load T.one9 rfl (fun _ hw => Rd.at (Heap.rdw T.el56_encT hw (n := 2) rfl) (i := (k : Int)) (by omega) (j := 0) rfl)) ?_
      refine op_fnV rfl rfl rfl hH24 (c93 (l := (nth (B.sp 10 l) (k : Int))) (by omega)) (fun w26 hH27 => ?_)
      refine ops_y hH27 rfl rfl (yv_move rfl) (ops_y hH27 rfl rfl (yv_extract rfl rfl) (ops_y hH27 rfl rfl (yv_extract rfl rfl) ?_))
      refine op_alloc (z := (.agg #[(.int .i64 0), (.int .i64 0), (.int .i64 0), (.int .i64 0), (.int .i64 0)])) (us := [(.int .i64 0), (.int .i64 0), (.int .i64 0), (.int .i64 0), (.int .i64 0)]) (fun _ => by kernel_rfl) rfl rfl hH27 (fun b28 w29 hH30 => ?_)
      refine op_store (n := 0) (j := 0) (us := [(.int .i64 ((B.entR (nth (B.sp 10 l) (k : Int))).1.n)), (.int .i64 ((B.entR (nth (B.sp 10 l) (k : Int))).1.d)), (.int .i64 ((B.entR (nth (B.sp 10 l) (k : Int))).1.f)), (.int .i64 ((B.entR (nth (B.sp 10 l) (k : Int))).1.t)), (.int .i64 ((B.entR (nth (B.sp 10 l) (k : Int))).1.a))]) rfl rfl hH30 rfl T.sz38 rfl rfl rfl (by rfl) (fun w31 hH32 => ?_)
      refine ops_y hH32 rfl rfl (yv_assign rfl) (ops_nil (thn_n (seq (seq (region (ops_y hH32 rfl rfl (yv_move rfl) ?_))))))
      refine ops_y hH32 rfl rfl (yv_not rfl) ?_
      refine ops_nil (thn_n ?_)
      by_cases hc33 : (!((B.entR (nth (B.sp 10 l) (k : Int))).2)) = true
      ·skip
       refine cond_t rfl hc33 ?_
       refine seq ?_
       have hnn : ¬ B.allE (B.sp 10 l) := fun h => absurd (h k (by omega)) (by first | assumption | exact B.bnt ‹_›)
       refine region ?_
       refine ops_y hH32 rfl rfl (yv_build (v := (.agg #[(.slice none 0 0)])) (us := []) (fun a ha => by simp []) (fun w => by kernel_rfl)) ?_
       refine op_store (n := 4) (j := 0) (us := [(.slice none 0 0)]) rfl rfl hH32 rfl T.sz24 rfl rfl rfl (by rfl) (fun w34 hH35 => ?_)
       refine ops_y hH35 rfl rfl (yv_assign rfl) (ops_nil (thn_n (ret (thn_r (blk_r (thn_r (lp_r (blk_r (thn_r ?_)))))))))
       have hH36 := (hH35.sub (List.Sublist.cons _ (List.Sublist.cons _ (List.Sublist.cons _ (List.Sublist.cons _ (List.Sublist.refl _))))))
       refine fin (hH36.front (n := 1) rfl) (fun w' hf => (res2 rfl (rvA (cs := [(.slice none 0 0)]) rfl T.agg24 rfl (bx_cells (Heap.bxw hf (n := 1) rfl) (k := 0) rfl)) (show RV _ _ _ (.tmp 3) _ from rfl))) (fun w' hf => ?_)
       first | (rw [B.lo7 (by omega)]; exact ⟨_, rfl, Rd.nil⟩) | (rw [B.lo8a hl1 hns]; exact ⟨_, rfl, Rd.nil⟩) | (rw [B.lo8b hl1 hsh hnn]; exact ⟨_, rfl, Rd.nil⟩) | (rw [B.lo8c hl1 hsh hae hnx]; exact ⟨_, rfl, Rd.nil⟩) | (rw [B.lock hl1 hsh hae hhx (by rw [← hes]; exact hck)]; rw [← hes]; exact ⟨_, rfl, Rd.nil⟩) | (rw [B.lo14 hl1 hsh hae hhx (by rw [← hes]; exact hc0) (by rw [← hes]; exact hrn)]; exact ⟨_, rfl, Rd.nil⟩) | (rw [B.look hl1 hsh hae hhx (by rw [← hes]; exact hc0) (by rw [← hes]; exact hrt)]; rw [← hes]; exact ⟨_, rfl, Heap.rdw T.el22_encE hf (n := 0) rfl⟩)
      ·skip
       refine cond_f rfl (Bool.eq_false_iff.2 hc33) ?_
       refine skip (thn_n ?_)
       have hok : (B.entR (nth (B.sp 10 l) (k : Int))).2 = true := by first | assumption | exact B.bnn ‹_›
       refine region ?_
       refine ops_y hH32 rfl rfl (yv_field T.f24_0 rfl) ?_
       refine ops_y hH32 rfl rfl (yv_load T.one22 rfl (fun _ hw => Heap.cellw hw (n := 2) rfl rfl)) ?_
       refine ops_y hH32 rfl rfl (yv_loadA (cs := [(.int .i64 ((B.entR (nth (B.sp 10 l) (k : Int))).1.n)), (.int .i64 ((B.entR (nth (B.sp 10 l) (k : Int))).1.d)), (.int .i64 ((B.entR (nth (B.sp 10 l) (k : Int))).1.f)), (.int .i64 ((B.entR (nth (B.sp 10 l) (k : Int))).1.t)), (.int .i64 ((B.entR (nth (B.sp 10 l) (k : Int))).1.a))]) T.agg38 rfl rfl (fun _ hw => Heap.cellsw hw (n := 0) rfl (k := 0) rfl)) ?_
       refine op_lit (us := [(0, (.agg #[(.int .i64 ((B.entR (nth (B.sp 10 l) (k : Int))).1.n)), (.int .i64 ((B.entR (nth (B.sp 10 l) (k : Int))).1.d)), (.int .i64 ((B.entR (nth (B.sp 10 l) (k : Int))).1.f)), (.int .i64 ((B.entR (nth (B.sp 10 l) (k : Int))).1.t)), (.int .i64 ((B.entR (nth (B.sp 10 l) (k : Int))).1.a))]))]) T.el22_encE [(B.entR (nth (B.sp 10 l) (k : Int))).1] rfl (by decide) rfl (fun a ha => by simp [ha.ev (show ev _ (.tmp 50) = some _ from rfl)]) (fun w => by kernel_rfl) hH32 (fun u37 lo39 hi40 w38 hH41 => ?_)
       refine op_append (n := 2) T.el22_encE rfl rfl rfl hH41 rfl (Heap.rdw T.el22_encE hH41 (n := 0) rfl) (by first | omega | (simp only [List.length_append, List.length_cons, List.length_nil]; omega)) (fun u42 lo44 hi45 w43 hH46 => ?_)
       refine ops_y hH46 rfl rfl (yv_field T.f24_0 rfl) ?_
       refine op_store (n := 3) (j := 0) (us := [u42]) rfl rfl hH46 rfl T.sz22 (SliceIs.cells (Heap.rdw T.el22_encE hH46 (n := 2) rfl).is) rfl rfl (SliceIs.one (Heap.rdw T.el22_encE hH46 (n := 2) rfl).is) (fun w47 hH48 => ?_)
       refine ops_nil (blk_n (thn_n (region (ops_y hH48 rfl rfl (yv_move rfl) ?_))))
       refine ops_y hH48 rfl rfl (yv_add rfl rfl (by omega)) ?_
       refine ops_y hH48 rfl rfl (yv_assign rfl) (ops_nil ?_)
       have hH49 := (hH48.sub (List.Sublist.cons _ (List.Sublist.cons _ (List.Sublist.refl _))))
       refine lp_n (k + 1, u42, lo44, hi45) (Sub.cons rfl (Sub.cons rfl (Sub.cons rfl (Sub.cons rfl (Sub.nil _))))) ?_ ?_
       ·exact ⟨(Heap.recast (n := 0) hH49 rfl (B.ents_succ (by omega))), by omega, B.all_snoc hall hok⟩
       ·first | (dsimp only; omega) | (show _ < _; omega)
     ·skip
      refine cond_f rfl (decide_eq_false hc25) ?_
      refine exit (thn_x (lp_x (blk_here (thn_n (seq ?_)))))
      have hke : k = (B.sp 10 l).length - 2 := by omega
      have hae : B.allE (B.sp 10 l) := fun i hi => hall i (by omega)
      have hes : B.ents (B.sp 10 l) k = B.esOf (B.sp 10 l) := by rw [hke]; rfl
      have hsq : nth (B.sp 10 l) (((B.sp 10 l).length : Int) - 2) = B.sumP (B.sp 10 l) := by unfold B.sumP; rw [show (((B.sp 10 l).length - 2 : Nat) : Int) = ((B.sp 10 l).length : Int) - 2 by omega]
      have hpl : (nth (B.sp 10 l) (((B.sp 10 l).length : Int) - 2)).length ≤ l.length := by rw [hsq]; exact B.sp_nth_len (by omega)
      refine region (ops_y hH24 rfl rfl (yv_move rfl) (ops_y hH24 rfl rfl (yv_move rfl) ?_))
      refine ops_y hH24 rfl rfl (yv_len T.sl56 rfl (Heap.rdw T.el56_encT hH24 (n := 2) rfl).is) ?_
      refine ops_y hH24 rfl rfl (yv_sub rfl rfl (by omega)) ?_
      refine ops_y hH24 rfl rfl (yv_index T.sl56 rfl rfl (Heap.rdw T.el56_encT hH24 (n := 2) rfl).is (by omega)) ?_
      refine ops_y hH24 rfl rfl (yv_load T.one9 rfl (fun _ hw => Rd.at (Heap.rdw T.el56_encT hw (n := 2) rfl) (i := ((B.sp 10 l).length : Int) - 2) (by omega) (j := 0) rfl)) ?_
      refine op_fnV rfl rfl rfl hH24 (c94 (l := (nth (B.sp 10 l) (((B.sp 10 l).length : Int) - 2))) (by omega)) (fun w50 hH51 => ?_)
      refine ops_y hH51 rfl rfl (yv_move rfl) (ops_y hH51 rfl rfl (yv_extract rfl rfl) (ops_y hH51 rfl rfl (yv_extract rfl rfl) (ops_y hH51 rfl rfl (yv_assign rfl) (ops_y hH51 rfl rfl (yv_assign rfl) (ops_nil (thn_n (seq (seq (region ?_)))))))))
      refine ops_y hH51 rfl rfl (yv_move rfl) ?_
      refine ops_y hH51 rfl rfl (yv_not rfl) ?_
      refine ops_nil (thn_n ?_)
      by_cases hc52 : (!((B.sumQ (nth (B.sp 10 l) (((B.sp 10 l).length : Int) - 2))).2)) = true
      ·skip
       refine cond_t rfl hc52 ?_
       refine seq ?_
       have hnx : ¬ B.Hx (B.sumP (B.sp 10 l)) := by rw [← hsq, ← B.sumQ_2]; first | assumption | exact B.bnt ‹_›
       refine region ?_
       refine ops_y hH51 rfl rfl (yv_build (v := (.agg #[(.slice none 0 0)])) (us := []) (fun a ha => by simp []) (fun w => by kernel_rfl)) ?_
       refine op_store (n := 3) (j := 0) (us := [(.slice none 0 0)]) rfl rfl hH51 rfl T.sz24 rfl rfl rfl (by rfl) (fun w53 hH54 => ?_)
       refine ops_y hH54 rfl rfl (yv_assign rfl) (ops_nil (thn_n (ret (thn_r ?_))))
       have hH55 := (hH54.sub (List.Sublist.cons _ (List.Sublist.cons _ (List.Sublist.cons _ (List.Sublist.refl _)))))
       refine fin (hH55.front (n := 1) rfl) (fun w' hf => (res2 rfl (rvA (cs := [(.slice none 0 0)]) rfl T.agg24 rfl (bx_cells (Heap.bxw hf (n := 1) rfl) (k := 0) rfl)) (show RV _ _ _ (.tmp 3) _ from rfl))) (fun w' hf => ?_)
       first | (rw [B.lo7 (by omega)]; exact ⟨_, rfl, Rd.nil⟩) | (rw [B.lo8a hl1 hns]; exact ⟨_, rfl, Rd.nil⟩) | (rw [B.lo8b hl1 hsh hnn]; exact ⟨_, rfl, Rd.nil⟩) | (rw [B.lo8c hl1 hsh hae hnx]; exact ⟨_, rfl, Rd.nil⟩) | (rw [B.lock hl1 hsh hae hhx (by rw [← hes]; exact hck)]; rw [← hes]; exact ⟨_, rfl, Rd.nil⟩) | (rw [B.lo14 hl1 hsh hae hhx (by rw [← hes]; exact hc0) (by rw [← hes]; exact hrn)]; exact ⟨_, rfl, Rd.nil⟩) | (rw [B.look hl1 hsh hae hhx (by rw [← hes]; exact hc0) (by rw [← hes]; exact hrt)]; rw [← hes]; exact ⟨_, rfl, Heap.rdw T.el22_encE hf (n := 0) rfl⟩)
      ·skip
       refine cond_f rfl (Bool.eq_false_iff.2 hc52) ?_
       refine skip (thn_n (seq (seq ?_)))
       have hhx : B.Hx (B.sumP (B.sp 10 l)) := by rw [← hsq, ← B.sumQ_2]; first | assumption | exact B.bnn ‹_›
       have hs1 : (B.sumQ (nth (B.sp 10 l) (((B.sp 10 l).length : Int) - 2))).1 = (B.hexV ((B.sumP (B.sp 10 l)).drop 4) : Int) := by rw [hsq]; exact B.sumQ_1 hhx
       refine region ?_
       refine ops_y hH51 rfl rfl (yv_loadA (cs := [v_b5]) T.agg24 rfl rfl (fun _ hw => Heap.cellsw hw (n := 1) rfl (k := 0) rfl)) ?_
       refine op_fnV rfl rfl rfl hH51 (c22 (Heap.rdw T.el22_encE hH51 (n := 0) rfl) (by omega)) (fun w56 hH57 => ?_)
       refine ops_y hH57 rfl rfl (yv_neq rfl rfl) ?_
       refine ops_nil (thn_n ?_)
       by_cases hc58 : (B.ck (B.ents (B.sp 10 l) k)) = 0
       ·skip
        refine cond_f rfl (not_decide_n hc58) ?_
        refine skip (thn_n (seq (seq ?_)))
        have hc0 : B.ck (B.ents (B.sp 10 l) k) = 0 := by omega
        have hbk := B.ck_iff.1 hc0
        refine region (ops_y hH57 rfl rfl (yv_move rfl) ?_)
        refine ops_y hH57 rfl rfl (yv_field T.f24_0 rfl) ?_
        refine ops_y hH57 rfl rfl (yv_load T.one22 rfl (fun _ hw => Heap.cellw hw (n := 1) rfl rfl)) ?_
        refine op_fnV rfl rfl rfl hH57 (c44 (Heap.rdw T.el22_encE hH57 (n := 0) rfl) (Nat.le_trans hbk.1 (by decide)) hbk.2.1) (fun w59 hH60 => ?_)
        refine ops_y hH60 rfl rfl (yv_neq rfl rfl) ?_
        refine ops_nil (thn_n ?_)
        by_cases hc61 : ((B.sumQ (nth (B.sp 10 l) (((B.sp 10 l).length : Int) - 2))).1) = ((B.root (B.ents (B.sp 10 l) k)).toNat : Int)
        ·skip
         refine cond_f rfl (not_decide_n hc61) ?_
         refine skip (thn_n (seq ?_))
         have hrt : B.hexV ((B.sumP (B.sp 10 l)).drop 4) = (B.root (B.ents (B.sp 10 l) k)).toNat := by omega
         refine region ?_
         refine ops_y hH60 rfl rfl (yv_loadA (cs := [v_b5]) T.agg24 rfl rfl (fun _ hw => Heap.cellsw hw (n := 1) rfl (k := 0) rfl)) ?_
         refine op_store (n := 3) (j := 0) (us := [v_b5]) rfl rfl hH60 rfl T.sz24 rfl rfl rfl (all_one (SliceIs.one1 (Heap.rdw T.el22_encE hH60 (n := 0) rfl).is) rfl) (fun w62 hH63 => ?_)
         refine ops_y hH63 rfl rfl (yv_assign rfl) (ops_nil (thn_n (ret ?_)))
         have hH64 := (hH63.sub (List.Sublist.cons_cons _ (List.Sublist.cons _ (List.Sublist.cons _ (List.Sublist.refl _)))))
         refine fin (hH64.front (n := 2) rfl) (fun w' hf => (res2 rfl (rvA (cs := [v_b5]) rfl T.agg24 rfl (bx_cells (Heap.bxw hf (n := 2) rfl) (k := 0) rfl)) (show RV _ _ _ (.tmp 3) _ from rfl))) (fun w' hf => ?_)
         first | (rw [B.lo7 (by omega)]; exact ⟨_, rfl, Rd.nil⟩) | (rw [B.lo8a hl1 hns]; exact ⟨_, rfl, Rd.nil⟩) | (rw [B.lo8b hl1 hsh hnn]; exact ⟨_, rfl, Rd.nil⟩) | (rw [B.lo8c hl1 hsh hae hnx]; exact ⟨_, rfl, Rd.nil⟩) | (rw [B.lock hl1 hsh hae hhx (by rw [← hes]; exact hck)]; rw [← hes]; exact ⟨_, rfl, Rd.nil⟩) | (rw [B.lo14 hl1 hsh hae hhx (by rw [← hes]; exact hc0) (by rw [← hes]; exact hrn)]; exact ⟨_, rfl, Rd.nil⟩) | (rw [B.look hl1 hsh hae hhx (by rw [← hes]; exact hc0) (by rw [← hes]; exact hrt)]; rw [← hes]; exact ⟨_, rfl, Heap.rdw T.el22_encE hf (n := 0) rfl⟩)
        ·skip
         refine cond_t rfl (not_decide_t hc61) ?_
         refine seq ?_
         have hrn : ¬ B.hexV ((B.sumP (B.sp 10 l)).drop 4) = (B.root (B.ents (B.sp 10 l) k)).toNat := by omega
         refine region ?_
         refine ops_y hH60 rfl rfl (yv_build (v := (.agg #[(.slice none 0 0)])) (us := []) (fun a ha => by simp []) (fun w => by kernel_rfl)) ?_
         refine op_store (n := 3) (j := 0) (us := [(.slice none 0 0)]) rfl rfl hH60 rfl T.sz24 rfl rfl rfl (by rfl) (fun w65 hH66 => ?_)
         refine ops_y hH66 rfl rfl (yv_assign rfl) (ops_nil (thn_n (ret (thn_r ?_))))
         have hH67 := (hH66.sub (List.Sublist.cons _ (List.Sublist.cons _ (List.Sublist.cons _ (List.Sublist.refl _)))))
         refine fin (hH67.front (n := 1) rfl) (fun w' hf => (res2 rfl (rvA (cs := [(.slice none 0 0)]) rfl T.agg24 rfl (bx_cells (Heap.bxw hf (n := 1) rfl) (k := 0) rfl)) (show RV _ _ _ (.tmp 3) _ from rfl))) (fun w' hf => ?_)
         first | (rw [B.lo7 (by omega)]; exact ⟨_, rfl, Rd.nil⟩) | (rw [B.lo8a hl1 hns]; exact ⟨_, rfl, Rd.nil⟩) | (rw [B.lo8b hl1 hsh hnn]; exact ⟨_, rfl, Rd.nil⟩) | (rw [B.lo8c hl1 hsh hae hnx]; exact ⟨_, rfl, Rd.nil⟩) | (rw [B.lock hl1 hsh hae hhx (by rw [← hes]; exact hck)]; rw [← hes]; exact ⟨_, rfl, Rd.nil⟩) | (rw [B.lo14 hl1 hsh hae hhx (by rw [← hes]; exact hc0) (by rw [← hes]; exact hrn)]; exact ⟨_, rfl, Rd.nil⟩) | (rw [B.look hl1 hsh hae hhx (by rw [← hes]; exact hc0) (by rw [← hes]; exact hrt)]; rw [← hes]; exact ⟨_, rfl, Heap.rdw T.el22_encE hf (n := 0) rfl⟩)
       ·skip
        refine cond_t rfl (not_decide_t hc58) ?_
        refine seq ?_
        have hck : ¬ B.ck (B.ents (B.sp 10 l) k) = 0 := ‹_›
        refine region ?_
        refine ops_y hH57 rfl rfl (yv_build (v := (.agg #[(.slice none 0 0)])) (us := []) (fun a ha => by simp []) (fun w => by kernel_rfl)) ?_
        refine ops_y hH57 rfl rfl (yv_loadA (cs := [v_b5]) T.agg24 rfl rfl (fun _ hw => Heap.cellsw hw (n := 1) rfl (k := 0) rfl)) ?_
        refine op_fnV rfl rfl rfl hH57 (c22 (Heap.rdw T.el22_encE hH57 (n := 0) rfl) (by omega)) (fun w68 hH69 => ?_)
        refine op_store (n := 3) (j := 0) (us := [(.slice none 0 0)]) rfl rfl hH69 rfl T.sz24 rfl rfl rfl (by rfl) (fun w70 hH71 => ?_)
        refine ops_y hH71 rfl rfl (yv_assign rfl) (ops_nil (thn_n (ret (thn_r ?_))))
        have hH72 := (hH71.sub (List.Sublist.cons _ (List.Sublist.cons _ (List.Sublist.cons _ (List.Sublist.refl _)))))
        refine fin (hH72.front (n := 1) rfl) (fun w' hf => (res2 rfl (rvA (cs := [(.slice none 0 0)]) rfl T.agg24 rfl (bx_cells (Heap.bxw hf (n := 1) rfl) (k := 0) rfl)) (show RV _ _ _ (.tmp 3) _ from rfl))) (fun w' hf => ?_)
        first | (rw [B.lo7 (by omega)]; exact ⟨_, rfl, Rd.nil⟩) | (rw [B.lo8a hl1 hns]; exact ⟨_, rfl, Rd.nil⟩) | (rw [B.lo8b hl1 hsh hnn]; exact ⟨_, rfl, Rd.nil⟩) | (rw [B.lo8c hl1 hsh hae hnx]; exact ⟨_, rfl, Rd.nil⟩) | (rw [B.lock hl1 hsh hae hhx (by rw [← hes]; exact hck)]; rw [← hes]; exact ⟨_, rfl, Rd.nil⟩) | (rw [B.lo14 hl1 hsh hae hhx (by rw [← hes]; exact hc0) (by rw [← hes]; exact hrn)]; exact ⟨_, rfl, Rd.nil⟩) | (rw [B.look hl1 hsh hae hhx (by rw [← hes]; exact hc0) (by rw [← hes]; exact hrt)]; rw [← hes]; exact ⟨_, rfl, Heap.rdw T.el22_encE hf (n := 0) rfl⟩)
   ·skip
    refine cond_t rfl (not_decide_t hc18) ?_
    refine seq ?_
    have hns : ¬ B.shaped (B.sp 10 l) := by first | exact fun h => absurd h.1 (by omega) | exact fun h => absurd h.2 (by rw [show (((B.sp 10 l).length - 1 : Nat) : Int) = ((B.sp 10 l).length : Int) - 1 by omega]; assumption)
    refine region ?_
    refine ops_y hH13 rfl rfl (yv_build (v := (.agg #[(.slice none 0 0)])) (us := []) (fun a ha => by simp []) (fun w => by kernel_rfl)) ?_
    refine op_store (n := 1) (j := 0) (us := [(.slice none 0 0)]) rfl rfl hH13 rfl T.sz24 rfl rfl rfl (by rfl) (fun w73 hH74 => ?_)
    refine ops_y hH74 rfl rfl (yv_assign rfl) (ops_nil (thn_n (ret (thn_r ?_))))
    have hH75 := (hH74.sub (List.Sublist.cons _ (List.Sublist.refl _)))
    refine fin (hH75.front (n := 1) rfl) (fun w' hf => (res2 rfl (rvA (cs := [(.slice none 0 0)]) rfl T.agg24 rfl (bx_cells (Heap.bxw hf (n := 1) rfl) (k := 0) rfl)) (show RV _ _ _ (.tmp 3) _ from rfl))) (fun w' hf => ?_)
    first | (rw [B.lo7 (by omega)]; exact ⟨_, rfl, Rd.nil⟩) | (rw [B.lo8a hl1 hns]; exact ⟨_, rfl, Rd.nil⟩) | (rw [B.lo8b hl1 hsh hnn]; exact ⟨_, rfl, Rd.nil⟩) | (rw [B.lo8c hl1 hsh hae hnx]; exact ⟨_, rfl, Rd.nil⟩) | (rw [B.lock hl1 hsh hae hhx (by rw [← hes]; exact hck)]; rw [← hes]; exact ⟨_, rfl, Rd.nil⟩) | (rw [B.lo14 hl1 hsh hae hhx (by rw [← hes]; exact hc0) (by rw [← hes]; exact hrn)]; exact ⟨_, rfl, Rd.nil⟩) | (rw [B.look hl1 hsh hae hhx (by rw [← hes]; exact hc0) (by rw [← hes]; exact hrt)]; rw [← hes]; exact ⟨_, rfl, Heap.rdw T.el22_encE hf (n := 0) rfl⟩)
end Go.Fip
namespace Go.Fip
open Go.Proofs Go.RowKit
theorem B.joinL_bd {a b : List En} : (B.joinR a b).1.length ≤ 24 := by
 unfold B.joinR
 split
 ·simp
 split
 ·simp
 split
 ·simp
 split
 ·simp
 ·rw [B.joinL_len]; omega
theorem B.loadR_bd {l : List UInt8} : (B.loadR l).1.length ≤ 24 := by
 unfold B.loadR
 split
 ·simp
 split
 ·simp
 split
 ·simp
 split
 ·simp
 split
 ·simp
 split
 ·simp
 ·have := (B.ck_iff.1 (Decidable.not_not.1 ‹¬ ¬ B.ck (B.esOf (B.sp 10 l)) = 0›)).1; exact this
theorem c7 {v u : Value} {l m : List En} {w : World} (h0 : Rd encE 5 v l w) (h1 : Rd encE 5 u m w) (hG : Gl w) {s : List UInt8}  :
  Fn Tryz.prog 7 [(.agg #[v]), (.agg #[u]), (str s)].toArray w (fun u _ => u = .bool true) := by
 refine fn_of' (args := [(.agg #[v]), (.agg #[u]), (str s)]) Tryz.func7 rfl (ent Tryz.func7 (by kernel_rfl) rfl) rfl rfl (fun hH => ?_)
 refine seq (region ?_)
 refine op_box (us := [v]) rfl rfl rfl hH (fun b1 w2 hH3 => ?_)
 refine op_box (us := [u]) rfl rfl rfl hH3 (fun b4 w5 hH6 => ?_)
 refine ops_y hH6 rfl rfl (yv_assign rfl) (ops_nil (thn_n (seq (seq (region ?_)))))
 refine ops_y hH6 rfl rfl (yv_loadA (cs := [v]) T.agg24 rfl rfl (fun _ hw => Heap.cellsw hw (n := 1) rfl (k := 0) rfl)) ?_
 refine op_fnV rfl rfl rfl hH6 (c17 (h0.now hH6 (n := 2) rfl)) (fun w7 hH8 => ?_)
 refine ops_y hH8 rfl rfl (yv_move rfl) ?_
 by_cases hc9 : 30 < (l.length : Int)
 ·skip
  refine guard_no rfl rfl (decide_eq_true hc9) rfl ?_
  refine guard_no rfl rfl (decide_eq_true hc9) rfl ?_
  refine ops_y hH8 rfl rfl (yv_pick_t rfl (decide_eq_true hc9) rfl) ?_
  refine ops_y hH8 rfl rfl (yv_move rfl) (guard_no rfl rfl rfl rfl (guard_no rfl rfl rfl rfl (guard_no rfl rfl rfl rfl ?_)))
  refine ops_y hH8 rfl rfl (yv_pick_t rfl rfl rfl) ?_
  refine ops_nil (thn_n ?_)
  refine cond_t rfl rfl ?_
  refine seq (region ?_)
  refine op_fnV rfl rfl rfl hH8 (c18 (hG.now hH8 (n := 2) rfl)) (fun w10 hH11 => ?_)
  refine ops_y hH11 rfl rfl (yv_assign rfl) (ops_nil (thn_n (ret (thn_r ?_))))
  have hH12 := (hH11.sub (List.Sublist.cons _ (List.Sublist.cons _ (List.Sublist.refl _))))
  refine fin hH12 (fun w' hf => (res1 rfl (show RV _ _ _ (.tmp 6) _ from rfl))) (fun w' hf => ?_)
  rfl
 ·skip
  refine guard_yes rfl rfl (decide_eq_false hc9) ?_
  refine ops_y hH8 rfl rfl (yv_loadA (cs := [u]) T.agg24 rfl rfl (fun _ hw => Heap.cellsw hw (n := 0) rfl (k := 0) rfl)) ?_
  refine guard_yes rfl rfl (decide_eq_false hc9) ?_
  refine op_fnV rfl rfl rfl hH8 (c17 (h1.now hH8 (n := 2) rfl)) (fun w13 hH14 => ?_)
  refine ops_y hH14 rfl rfl (yv_pick_f rfl (decide_eq_false hc9) rfl) ?_
  refine ops_y hH14 rfl rfl (yv_move rfl) ?_
  by_cases hc15 : 30 < (m.length : Int)
  ·skip
   refine guard_no rfl rfl (decide_eq_true hc15) rfl ?_
   refine guard_no rfl rfl (decide_eq_true hc15) rfl ?_
   refine guard_no rfl rfl (decide_eq_true hc15) rfl ?_
   refine ops_y hH14 rfl rfl (yv_pick_t rfl (decide_eq_true hc15) rfl) ?_
   refine ops_nil (thn_n ?_)
   refine cond_t rfl rfl ?_
   refine seq (region ?_)
   refine op_fnV rfl rfl rfl hH14 (c18 (hG.now hH14 (n := 2) rfl)) (fun w16 hH17 => ?_)
   refine ops_y hH17 rfl rfl (yv_assign rfl) (ops_nil (thn_n (ret (thn_r ?_))))
   have hH18 := (hH17.sub (List.Sublist.cons _ (List.Sublist.cons _ (List.Sublist.refl _))))
   refine fin hH18 (fun w' hf => (res1 rfl (show RV _ _ _ (.tmp 6) _ from rfl))) (fun w' hf => ?_)
   rfl
  ·skip
   refine guard_yes rfl rfl (decide_eq_false hc15) ?_
   refine ops_y hH14 rfl rfl (yv_move rfl) ?_
   refine guard_yes rfl rfl (decide_eq_false hc15) ?_
   refine ops_y hH14 rfl rfl (yv_lenS Tryz.underlying9 rfl) ?_
   refine guard_yes rfl rfl (decide_eq_false hc15) ?_
   refine ops_y hH14 rfl rfl (yv_gtr rfl rfl) ?_
   refine ops_y hH14 rfl rfl (yv_pick_f rfl (decide_eq_false hc15) rfl) ?_
   refine ops_nil (thn_n ?_)
   by_cases hc19 : 1100 < (s.length : Int)
   ·skip
    refine cond_t rfl (decide_eq_true hc19) ?_
    refine seq (region ?_)
    refine op_fnV rfl rfl rfl hH14 (c18 (hG.now hH14 (n := 2) rfl)) (fun w20 hH21 => ?_)
    refine ops_y hH21 rfl rfl (yv_assign rfl) (ops_nil (thn_n (ret (thn_r ?_))))
    have hH22 := (hH21.sub (List.Sublist.cons _ (List.Sublist.cons _ (List.Sublist.refl _))))
    refine fin hH22 (fun w' hf => (res1 rfl (show RV _ _ _ (.tmp 6) _ from rfl))) (fun w' hf => ?_)
    rfl
   ·skip
    refine cond_f rfl (decide_eq_false hc19) ?_
    refine skip (thn_n (seq ?_))
    have hl30 : l.length ≤ 30 := by omega
    have hm30 : m.length ≤ 30 := by omega
    have hs11 : s.length ≤ 1100 := by omega
    refine region ?_
    refine ops_y hH14 rfl rfl (yv_loadA (cs := [v]) T.agg24 rfl rfl (fun _ hw => Heap.cellsw hw (n := 1) rfl (k := 0) rfl)) ?_
    refine ops_y hH14 rfl rfl (yv_loadA (cs := [u]) T.agg24 rfl rfl (fun _ hw => Heap.cellsw hw (n := 0) rfl (k := 0) rfl)) ?_
    refine op_fn rfl rfl rfl hH14 (c36  (h0.now hH14 (n := 2) rfl) (h1.now hH14 (n := 2) rfl) (by omega) (by omega) ) (fun u25 w23 lo26 hi27 hH24 hv28 => ?_)
    obtain ⟨bp29, hu, -⟩ := hv28
    subst hu
    have hH30 := Heap.weak (ψ := Rd encE 5 bp29 ((B.joinR l m).1)) hH24 (n := 0) rfl (fun w' h => (by obtain ⟨p', e, h⟩ := h; rw [agg_slice e]; exact h))
    refine ops_y hH30 rfl rfl (yv_move rfl) (ops_y hH30 rfl rfl (yv_extract rfl rfl) (ops_y hH30 rfl rfl (yv_extract rfl rfl) ?_))
    refine op_alloc (z := (.agg #[(.slice none 0 0)])) (us := [(.slice none 0 0)]) (fun _ => by kernel_rfl) rfl rfl hH30 (fun b31 w32 hH33 => ?_)
    refine op_store (n := 0) (j := 0) (us := [bp29]) rfl rfl hH33 rfl T.sz24 rfl rfl rfl (all_one (SliceIs.one1 ((show Rd encE 5 bp29 ((B.joinR l m).1) _ from hH33.get (n := 1) rfl)).is) rfl) (fun w34 hH35 => ?_)
    refine ops_y hH35 rfl rfl (yv_assign rfl) (ops_nil (thn_n (seq (region ?_))))
    refine ops_y hH35 rfl rfl (yv_loadA (cs := [v]) T.agg24 rfl rfl (fun _ hw => Heap.cellsw hw (n := 3) rfl (k := 0) rfl)) ?_
    refine ops_y hH35 rfl rfl (yv_loadA (cs := [u]) T.agg24 rfl rfl (fun _ hw => Heap.cellsw hw (n := 2) rfl (k := 0) rfl)) ?_
    refine op_fn rfl rfl rfl hH35 (c37  (h0.now hH35 (n := 4) rfl) (h1.now hH35 (n := 4) rfl) (by omega) (by omega) ) (fun u38 w36 lo39 hi40 hH37 hv41 => ?_)
    obtain ⟨bp42, hu, -⟩ := hv41
    subst hu
    have hH43 := Heap.weak (ψ := Rd encE 5 bp42 ((B.joinR l m).1)) hH37 (n := 0) rfl (fun w' h => (by obtain ⟨p', e, h⟩ := h; rw [agg_slice e]; exact h))
    refine ops_y hH43 rfl rfl (yv_move rfl) (ops_y hH43 rfl rfl (yv_extract rfl rfl) (ops_y hH43 rfl rfl (yv_extract rfl rfl) ?_))
    refine op_alloc (z := (.agg #[(.slice none 0 0)])) (us := [(.slice none 0 0)]) (fun _ => by kernel_rfl) rfl rfl hH43 (fun b44 w45 hH46 => ?_)
    refine op_store (n := 0) (j := 0) (us := [bp42]) rfl rfl hH46 rfl T.sz24 rfl rfl rfl (all_one (SliceIs.one1 ((show Rd encE 5 bp42 ((B.joinR l m).1) _ from hH46.get (n := 1) rfl)).is) rfl) (fun w47 hH48 => ?_)
    refine ops_y hH48 rfl rfl (yv_assign rfl) (ops_nil (thn_n (seq (region ?_))))
    refine ops_y hH48 rfl rfl (yv_loadA (cs := [v]) T.agg24 rfl rfl (fun _ hw => Heap.cellsw hw (n := 5) rfl (k := 0) rfl)) ?_
    refine op_fnV rfl rfl rfl hH48 (c38  (h0.now hH48 (n := 6) rfl) (by omega) (hG.now hH48 (n := 6) rfl)) (fun w49 hH50 => ?_)
    refine ops_y hH50 rfl rfl (yv_move rfl) (ops_y hH50 rfl rfl (yv_extract rfl rfl) (ops_y hH50 rfl rfl (yv_extract rfl rfl) (ops_y hH50 rfl rfl (yv_assign rfl) (ops_y hH50 rfl rfl (yv_assign rfl) (ops_nil (thn_n (seq (region ?_))))))))
    refine ops_y hH50 rfl rfl (yv_loadA (cs := [v]) T.agg24 rfl rfl (fun _ hw => Heap.cellsw hw (n := 5) rfl (k := 0) rfl)) ?_
    refine op_fnV rfl rfl rfl hH50 (c39  (h0.now hH50 (n := 6) rfl) (by omega) ) (fun w51 hH52 => ?_)
    refine ops_y hH52 rfl rfl (yv_move rfl) (ops_y hH52 rfl rfl (yv_extract rfl rfl) (ops_y hH52 rfl rfl (yv_extract rfl rfl) (ops_y hH52 rfl rfl (yv_assign rfl) (ops_y hH52 rfl rfl (yv_assign rfl) (ops_nil (thn_n (seq (region (ops_y hH52 rfl rfl (yv_move rfl) ?_)))))))))
    refine op_fn rfl rfl rfl hH52 (c40 (l := s) (hG.now hH52 (n := 6) rfl) (by omega)) (fun u55 w53 lo56 hi57 hH54 hv58 => ?_)
    obtain ⟨bp59, hu, -⟩ := hv58
    subst hu
    have hH60 := Heap.weak (ψ := Rd encE 5 bp59 ((B.loadR s).1)) hH54 (n := 0) rfl (fun w' h => (by obtain ⟨p', e, h⟩ := h; rw [agg_slice e]; exact h))
    refine ops_y hH60 rfl rfl (yv_move rfl) (ops_y hH60 rfl rfl (yv_extract rfl rfl) (ops_y hH60 rfl rfl (yv_extract rfl rfl) ?_))
    refine op_alloc (z := (.agg #[(.slice none 0 0)])) (us := [(.slice none 0 0)]) (fun _ => by kernel_rfl) rfl rfl hH60 (fun b61 w62 hH63 => ?_)
    refine op_store (n := 0) (j := 0) (us := [bp59]) rfl rfl hH63 rfl T.sz24 rfl rfl rfl (all_one (SliceIs.one1 ((show Rd encE 5 bp59 ((B.loadR s).1) _ from hH63.get (n := 1) rfl)).is) rfl) (fun w64 hH65 => ?_)
    refine ops_y hH65 rfl rfl (yv_assign rfl) (ops_nil (thn_n (seq (region (ops_y hH65 rfl rfl (yv_move rfl) ?_)))))
    refine op_fn rfl rfl rfl hH65 (c41 (l := s)  (by omega)) (fun u68 w66 lo69 hi70 hH67 hv71 => ?_)
    obtain ⟨bp72, hu, -⟩ := hv71
    subst hu
    have hH73 := Heap.weak (ψ := Rd encE 5 bp72 ((B.loadR s).1)) hH67 (n := 0) rfl (fun w' h => (by obtain ⟨p', e, h⟩ := h; rw [agg_slice e]; exact h))
    refine ops_y hH73 rfl rfl (yv_move rfl) (ops_y hH73 rfl rfl (yv_extract rfl rfl) (ops_y hH73 rfl rfl (yv_extract rfl rfl) ?_))
    refine op_alloc (z := (.agg #[(.slice none 0 0)])) (us := [(.slice none 0 0)]) (fun _ => by kernel_rfl) rfl rfl hH73 (fun b74 w75 hH76 => ?_)
    refine op_store (n := 0) (j := 0) (us := [bp72]) rfl rfl hH76 rfl T.sz24 rfl rfl rfl (all_one (SliceIs.one1 ((show Rd encE 5 bp72 ((B.loadR s).1) _ from hH76.get (n := 1) rfl)).is) rfl) (fun w77 hH78 => ?_)
    refine ops_y hH78 rfl rfl (yv_assign rfl) (ops_nil (thn_n (seq (region ?_))))
    refine ops_y hH78 rfl rfl (yv_loadA (cs := [bp29]) T.agg24 rfl rfl (fun _ hw => Heap.cellsw hw (n := 6) rfl (k := 0) rfl)) ?_
    refine ops_y hH78 rfl rfl (yv_loadA (cs := [bp42]) T.agg24 rfl rfl (fun _ hw => Heap.cellsw hw (n := 4) rfl (k := 0) rfl)) ?_
    refine op_fnV rfl rfl rfl hH78 (c42 ((show Rd encE 5 bp29 ((B.joinR l m).1) _ from hH78.get (n := 7) rfl)) ((show Rd encE 5 bp42 ((B.joinR l m).1) _ from hH78.get (n := 5) rfl)) (Nat.le_trans B.joinL_bd (by decide)) (Nat.le_trans B.joinL_bd (by decide))) (fun w79 hH80 => ?_)
    refine ops_y hH80 rfl rfl (yv_move rfl) ?_
    refine guard_yes rfl rfl (decide_eq_true rfl) ?_
    refine ops_y hH80 rfl rfl (yv_move rfl) ?_
    refine guard_yes rfl rfl (decide_eq_true rfl) ?_
    refine ops_y hH80 rfl rfl (yv_move rfl) ?_
    refine guard_yes rfl rfl (decide_eq_true rfl) ?_
    refine ops_y hH80 rfl rfl (yv_eql rfl rfl) ?_
    refine ops_y hH80 rfl rfl (yv_pick_t rfl (decide_eq_true rfl) rfl) ?_
    refine ops_y hH80 rfl rfl (yv_move rfl) ?_
    refine guard_yes rfl rfl (decide_eq_true rfl) ?_
    refine ops_y hH80 rfl rfl (yv_move rfl) ?_
    refine guard_yes rfl rfl (decide_eq_true rfl) ?_
    refine ops_y hH80 rfl rfl (yv_move rfl) ?_
    refine guard_yes rfl rfl (decide_eq_true rfl) ?_
    refine ops_y hH80 rfl rfl (yv_eqlS rfl rfl) ?_
    refine ops_y hH80 rfl rfl (yv_pick_t rfl (decide_eq_true rfl) rfl) ?_
    refine ops_y hH80 rfl rfl (yv_move rfl) ?_
    refine guard_yes rfl rfl (decide_eq_true rfl) ?_
    refine ops_y hH80 rfl rfl (yv_move rfl) ?_
    refine guard_yes rfl rfl (decide_eq_true rfl) ?_
    refine ops_y hH80 rfl rfl (yv_move rfl) ?_
    refine guard_yes rfl rfl (decide_eq_true rfl) ?_
    refine ops_y hH80 rfl rfl (yv_eql rfl rfl) ?_
    refine ops_y hH80 rfl rfl (yv_pick_t rfl (decide_eq_true rfl) rfl) ?_
    refine ops_y hH80 rfl rfl (yv_move rfl) ?_
    refine guard_yes rfl rfl (decide_eq_true rfl) ?_
    refine ops_y hH80 rfl rfl (yv_loadA (cs := [bp59]) T.agg24 rfl rfl (fun _ hw => Heap.cellsw hw (n := 2) rfl (k := 0) rfl)) ?_
    refine guard_yes rfl rfl (decide_eq_true rfl) ?_
    refine ops_y hH80 rfl rfl (yv_loadA (cs := [bp72]) T.agg24 rfl rfl (fun _ hw => Heap.cellsw hw (n := 0) rfl (k := 0) rfl)) ?_
    refine guard_yes rfl rfl (decide_eq_true rfl) ?_
    refine op_fnV rfl rfl rfl hH80 (c42 ((show Rd encE 5 bp59 ((B.loadR s).1) _ from hH80.get (n := 3) rfl)) ((show Rd encE 5 bp72 ((B.loadR s).1) _ from hH80.get (n := 1) rfl)) (Nat.le_trans B.loadR_bd (by decide)) (Nat.le_trans B.loadR_bd (by decide))) (fun w81 hH82 => ?_)
    refine ops_y hH82 rfl rfl (yv_pick_t rfl (decide_eq_true rfl) rfl) ?_
    refine ops_y hH82 rfl rfl (yv_move rfl) ?_
    refine guard_yes rfl rfl (decide_eq_true rfl) ?_
    refine ops_y hH82 rfl rfl (yv_move rfl) ?_
    refine guard_yes rfl rfl (decide_eq_true rfl) ?_
    refine ops_y hH82 rfl rfl (yv_move rfl) ?_
    refine guard_yes rfl rfl (decide_eq_true rfl) ?_
    refine ops_y hH82 rfl rfl (yv_eql rfl rfl) ?_
    refine ops_y hH82 rfl rfl (yv_pick_t rfl (decide_eq_true rfl) rfl) ?_
    refine ops_y hH82 rfl rfl (yv_move rfl) ?_
    refine guard_yes rfl rfl (decide_eq_true rfl) ?_
    refine op_fnV rfl rfl rfl hH82 (c18 (hG.now hH82 (n := 10) rfl)) (fun w83 hH84 => ?_)
    refine ops_y hH84 rfl rfl (yv_pick_t rfl (decide_eq_true rfl) rfl) ?_
    refine ops_y hH84 rfl rfl (yv_assign rfl) (ops_nil (thn_n (ret ?_)))
    have hH85 := (hH84.sub (List.Sublist.cons _ (List.Sublist.cons _ (List.Sublist.cons _ (List.Sublist.cons _ (List.Sublist.cons _ (List.Sublist.cons _ (List.Sublist.cons _ (List.Sublist.cons _ (List.Sublist.cons _ (List.Sublist.cons _ (List.Sublist.refl _))))))))))))
    refine fin hH85 (fun w' hf => (res1 rfl (show RV _ _ _ (.tmp 6) _ from rfl))) (fun w' hf => ?_)
    rfl
end Go.Fip
