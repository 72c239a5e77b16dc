/- Walks of the law, and what it alone needs, by program (wip/tools). -/
import Derived.Test.YtfomadbnfcadnaaGreatDoorMJ
set_option linter.unusedVariables false
set_option linter.unusedSimpArgs false
set_option linter.unusedSectionVars false
set_option linter.unnecessarySimpa false
namespace Go.Fip
theorem sC {α : Type} {a : α} {l m : List α} (h : l.Sublist m) : l.Sublist (a :: m) := .cons a h
theorem sR {α : Type} {l : List α} : l.Sublist l := .refl l
theorem uC {env env' : Env} {i : Nat} {v : Value} (h : env.find i = some v) (hs : Sub env' env) : Sub ((i, v) :: env') env := Sub.cons h hs
theorem dF {p : Prop} [Decidable p] (h : ¬ p) : decide p = false := decide_eq_false h
theorem dT {p : Prop} [Decidable p] (h : p) : decide p = true := decide_eq_true h
section
variable {r : Option Nat} {P : Program} {N : Nat} {S : World → Prop} {ds : List Deferred} {env : Env} {w : World} {Q : Post} {all : Array Oper} {rest : List Oper} {d : Nat} {x : Operand} {ty : TypeId} {pos : String} {after : Array Edge} {v : Value}
theorem oM (hS : S w) (hd : Nat.blt d N = true) (hx : ev env x = some v) (h : Ops r P N all rest ds ((d, v) :: env) w Q) : Ops r P N all (⟨some d, .move x, ty, pos, after, none⟩ :: rest) ds env w Q := ops_y hS rfl hd (yv_move hx) h
theorem oA (hS : S w) (hd : Nat.blt d N = true) (hx : ev env x = some v) (h : Ops r P N all rest ds ((d, v) :: env) w Q) : Ops r P N all (⟨some d, .assign x, ty, pos, after, none⟩ :: rest) ds env w Q := ops_y hS rfl hd (yv_assign hx) h
end
section
variable {P : Program} {N : Nat} {S : World → Prop} {ops : Array Oper} {ds : List Deferred} {env : Env} {K : Env → Prop} {i : Nat} {is : List Nat} {d : Nat} {x : Operand} {ty : TypeId} {pos : String} {after : Array Edge} {v : Value}
theorem qM (hi : ops[i]? = some ⟨some d, .move x, ty, pos, after, none⟩) (hN : Nat.blt d N = true) (hx : ev env x = some v) (h : Qs P N S ops ds K is ((d, v) :: env)) : Qs P N S ops ds K (i :: is) env := qs_y hi hN (yv_move hx) h
theorem qW {j : Nat} {want : Bool} {s : Nat} {b : Bool} (hi : ops[i]? = some ⟨some d, .move x, ty, pos, after, some (j, want)⟩) (hj : (ops[j]?).bind (·.dst) = some s) (hs : env.find s = some (.bool b)) (hb : b = want) (hN : Nat.blt d N = true) (hx : ev env x = some v) (h : Qs P N S ops ds K is ((d, v) :: env)) : Qs P N S ops ds K (i :: is) env := qs_yes hi hj hs hb hN (yv_move hx) h
end
end Go.Fip
namespace Go.Fip
open Go.ChangeShapes Go.WideShapes Go.ChangeAt Go.RowKit
section
variable {H : Type} {enc : TypeId × Value → H} {P : Program} {w : World}
theorem trodAll_below (hl : laidOutB P = true) {W W' : World} (hb : Below W.heap.size W W') : ∀ (ts : List TypeId) (vs : List Value) (ds : List (DataW H)) (ps : List MemPlace), (ts.all fun t => P.readableRec t && decide (t < P.types.size)) = true →
    DataW.TrodAll enc P W 0 (fun _ => true) true ts vs ds ps → (∀ x ∈ ps, x.block < W.heap.size) → DataW.TrodAll enc P W' 0 (fun b => decide (b < W.heap.size)) true ts vs ds ps
  | [], vs, ds, ps, _, h, _ => by
    obtain ⟨rfl, rfl, rfl⟩ := trodAll_nil h
    rfl
  | t :: ts, vs, ds, ps, hr, h, hlt => by
    obtain ⟨v, vs, d, ds, p, q, rfl, rfl, rfl, h1, h2⟩ := trodAll_cons h
    simp only [List.all_cons, Bool.and_eq_true, decide_eq_true_eq] at hr
    exact ⟨p, q, Below.trod hl hr.1.1 hr.1.2 h1 hb (fun x hx => hlt x (List.mem_append_left _ hx)), trodAll_below hl hb ts vs ds q (by simpa using hr.2) h2 (fun x hx => hlt x (List.mem_append_right _ hx)), rfl⟩
theorem law_post {f : Func} {s : ChangeSpec} {apart fresh : Bool} {W W' : World} {args : Array Value} {ds : List (DataW H)} {before p : List MemPlace} {tb : TypeId} (hl : laidOutB P = true) (hb : Below W.heap.size W W')
    (hr : (f.params.toList.all fun t => P.readableRec t && decide (t < P.types.size)) = true) (hv : s.vars = []) (hW : DataW.Whole enc P f.params.toList s.vars apart W args.toList ds [] before)
    (hA : DataW.TrodAll enc P W 0 (fun _ => true) true f.params.toList args.toList ds p) (hp : before = p) (hrt : f.resultTypes = #[tb]) (htb : P.underlying tb = some .bool) (hs : s.fn H (ds ++ []) = { results := [.lit (.bool true)], args := ds }) :
    s.post enc P f apart fresh false false W args (.bool true) W' := by
  subst hp
  refine ⟨ds, [], before, [], before, [], hW, ?_, ?_, ?_, Below.frame hb _, fun h => by cases h⟩
  · rw [hs, hrt]; exact trodAll_mk1 (shut_bool htb _)
  · rw [hs]; exact trodAll_below hl hb _ _ _ _ hr hA (fun x hx => by simpa using hW.lt x hx)
  · rw [hs, hv]; rfl
end
end Go.Fip
namespace Go.Fip
open Go.Proofs Go.RowKit
theorem c35 {v : Value} {g : List UInt64} {m n : Int} {o r : UInt64} {w : World} (h0 : Rd encW 1 v g w) (hp : g.length ≤ 1000)  :
  Fn Tryz.prog 35 [(.int .i64 m), (.int .i64 n), v, (.int .u64 (o.toNat : Int)), (.int .u64 (r.toNat : Int))].toArray w (fun u _ => u = .int .i64 (B.cg m n g o r)) := by
 refine fn_of' (args := [(.int .i64 m), (.int .i64 n), v, (.int .u64 (o.toNat : Int)), (.int .u64 (r.toNat : Int))]) Tryz.func35 rfl (ent Tryz.func35 (by kernel_rfl) rfl) rfl rfl (fun hH => ?_)
 refine seq (region (oA hH rfl rfl (ops_nil (thn_n (seq (seq (region (oM hH rfl rfl ?_))))))))
 refine ops_y hH rfl rfl (yv_lss rfl rfl) ?_
 refine oM hH rfl rfl ?_
 by_cases hc1 : n < 1
 ·skip
  refine guard_no rfl rfl (dT hc1) rfl ?_
  refine guard_no rfl rfl (dT hc1) rfl ?_
  refine ops_y hH rfl rfl (yv_pick_t rfl (dT hc1) rfl) ?_
  refine ops_nil (thn_n ?_)
  refine cond_t rfl rfl ?_
  refine seq (region (oA hH rfl rfl (ops_nil (thn_n (ret (thn_r ?_))))))
  refine fin hH (fun w' hf => (res1 rfl (show RV _ _ _ (.tmp 10) _ from rfl))) (fun w' hf => ?_)
  first | exact congrArg (Value.int .i64) (B.cg1 (by omega)).symm | exact congrArg (Value.int .i64) (B.cg2 (by omega) (by omega)).symm | exact congrArg (Value.int .i64) (B.cg3 (by omega) (by omega) hbad).symm | exact congrArg (Value.int .i64) (B.cg4 (by omega) (by omega) hgood).symm
 ·skip
  refine guard_yes rfl rfl (dF hc1) ?_
  refine oM hH rfl rfl ?_
  refine guard_yes rfl rfl (dF hc1) ?_
  refine ops_y hH rfl rfl (yv_gtr rfl rfl) ?_
  refine ops_y hH rfl rfl (yv_pick_f rfl (dF hc1) rfl) ?_
  refine ops_nil (thn_n ?_)
  by_cases hc2 : 24 < n
  ·skip
   refine cond_t rfl (dT hc2) ?_
   refine seq (region (oA hH rfl rfl (ops_nil (thn_n (ret (thn_r ?_))))))
   refine fin hH (fun w' hf => (res1 rfl (show RV _ _ _ (.tmp 10) _ from rfl))) (fun w' hf => ?_)
   first | exact congrArg (Value.int .i64) (B.cg1 (by omega)).symm | exact congrArg (Value.int .i64) (B.cg2 (by omega) (by omega)).symm | exact congrArg (Value.int .i64) (B.cg3 (by omega) (by omega) hbad).symm | exact congrArg (Value.int .i64) (B.cg4 (by omega) (by omega) hgood).symm
  ·skip
   refine cond_f rfl (dF hc2) ?_
   refine skip (thn_n (seq (seq (region (oM hH rfl rfl ?_)))))
   refine ops_y hH rfl rfl (yv_lss rfl rfl) ?_
   refine oM hH rfl rfl ?_
   by_cases hc3 : m < 1
   ·skip
    refine guard_no rfl rfl (dT hc3) rfl ?_
    refine guard_no rfl rfl (dT hc3) rfl ?_
    refine guard_no rfl rfl (dT hc3) rfl ?_
    refine ops_y hH rfl rfl (yv_pick_t rfl (dT hc3) rfl) ?_
    refine ops_nil (thn_n ?_)
    refine cond_t rfl rfl ?_
    refine seq (region (oA hH rfl rfl (ops_nil (thn_n (ret (thn_r ?_))))))
    refine fin hH (fun w' hf => (res1 rfl (show RV _ _ _ (.tmp 10) _ from rfl))) (fun w' hf => ?_)
    first | exact congrArg (Value.int .i64) (B.cg1 (by omega)).symm | exact congrArg (Value.int .i64) (B.cg2 (by omega) (by omega)).symm | exact congrArg (Value.int .i64) (B.cg3 (by omega) (by omega) hbad).symm | exact congrArg (Value.int .i64) (B.cg4 (by omega) (by omega) hgood).symm
   ·skip
    refine guard_yes rfl rfl (dF hc3) ?_
    refine oM hH rfl rfl ?_
    refine guard_yes rfl rfl (dF hc3) ?_
    refine oM hH rfl rfl ?_
    refine guard_yes rfl rfl (dF hc3) ?_
    refine ops_y hH rfl rfl (yv_gtr rfl rfl) ?_
    refine ops_y hH rfl rfl (yv_pick_f rfl (dF hc3) rfl) ?_
    refine ops_nil (thn_n ?_)
    by_cases hc4 : n < m
    ·skip
     refine cond_t rfl (dT hc4) ?_
     refine seq (region (oA hH rfl rfl (ops_nil (thn_n (ret (thn_r ?_))))))
     refine fin hH (fun w' hf => (res1 rfl (show RV _ _ _ (.tmp 10) _ from rfl))) (fun w' hf => ?_)
     first | exact congrArg (Value.int .i64) (B.cg1 (by omega)).symm | exact congrArg (Value.int .i64) (B.cg2 (by omega) (by omega)).symm | exact congrArg (Value.int .i64) (B.cg3 (by omega) (by omega) hbad).symm | exact congrArg (Value.int .i64) (B.cg4 (by omega) (by omega) hgood).symm
    ·skip
     refine cond_f rfl (dF hc4) ?_
     refine skip (thn_n (seq (region ?_)))
     refine ops_y hH rfl rfl (yv_cast (show m = (m.toNat : Int) by omega) (yv_move rfl)) ?_
     refine ops_y hH rfl rfl (yv_cast (show n = (n.toNat : Int) by omega) (yv_move rfl)) ?_
     refine oM hH rfl rfl (oM hH rfl rfl ?_)
     refine op_fnV rfl rfl rfl hH (c80 (m := m.toNat) (n := n.toNat) (p := g) (wh := true) (o := o) (h0.now hH (n := 0) rfl) (by omega) (by omega) (by omega) (by omega)) (fun w5 hH6 => ?_)
     refine oM hH6 rfl rfl (ops_y hH6 rfl rfl (yv_extract rfl rfl) (ops_y hH6 rfl rfl (yv_extract rfl rfl) (ops_y hH6 rfl rfl (yv_extract rfl rfl) (oA hH6 rfl rfl (oA hH6 rfl rfl (oA hH6 rfl rfl (ops_nil (thn_n (seq ?_)))))))))
     refine seq (region (oM hH6 rfl rfl ?_))
     refine ops_y hH6 rfl rfl (yv_not rfl) ?_
     refine oM hH6 rfl rfl ?_
     by_cases hc7 : (!((B.rt m.toNat n.toNat g true o).2.2)) = true
     ·skip
      have hbad : ¬ ((B.rt m.toNat n.toNat g true o).2.2 = true ∧ (B.rt m.toNat n.toNat g true o).1 = o ∧ (B.rt m.toNat n.toNat g true o).2.1 = r) := fun h => by have h2 := hc7; rw [h.1] at h2; cases h2
      refine guard_no rfl rfl hc7 rfl ?_
      refine guard_no rfl rfl hc7 rfl ?_
      refine guard_no rfl rfl hc7 rfl ?_
      refine ops_y hH6 rfl rfl (yv_pick_t rfl hc7 rfl) ?_
      refine oM hH6 rfl rfl (guard_no rfl rfl rfl rfl (guard_no rfl rfl rfl rfl (guard_no rfl rfl rfl rfl ?_)))
      refine ops_y hH6 rfl rfl (yv_pick_t rfl rfl rfl) ?_
      refine ops_nil (thn_n ?_)
      refine cond_t rfl rfl ?_
      refine seq (region (oA hH6 rfl rfl (ops_nil (thn_n (ret (thn_r ?_))))))
      refine fin hH6 (fun w' hf => (res1 rfl (show RV _ _ _ (.tmp 10) _ from rfl))) (fun w' hf => ?_)
      first | exact congrArg (Value.int .i64) (B.cg1 (by omega)).symm | exact congrArg (Value.int .i64) (B.cg2 (by omega) (by omega)).symm | exact congrArg (Value.int .i64) (B.cg3 (by omega) (by omega) hbad).symm | exact congrArg (Value.int .i64) (B.cg4 (by omega) (by omega) hgood).symm
     ·skip
      have hok : (B.rt m.toNat n.toNat g true o).2.2 = true := by simpa using (Bool.eq_false_iff.2 hc7)
      refine guard_yes rfl rfl (Bool.eq_false_iff.2 hc7) ?_
      refine oM hH6 rfl rfl ?_
      refine guard_yes rfl rfl (Bool.eq_false_iff.2 hc7) ?_
      refine oM hH6 rfl rfl ?_
      refine guard_yes rfl rfl (Bool.eq_false_iff.2 hc7) ?_
      refine ops_y hH6 rfl rfl (yv_neq rfl rfl) ?_
      refine ops_y hH6 rfl rfl (yv_pick_f rfl (Bool.eq_false_iff.2 hc7) rfl) ?_
      refine oM hH6 rfl rfl ?_
      by_cases hc8 : (((B.rt m.toNat n.toNat g true o).1).toNat : Int) = (o.toNat : Int)
      ·skip
       have hok1 : (B.rt m.toNat n.toNat g true o).1 = o := toNatI.1 (by first | assumption | omega)
       refine guard_yes rfl rfl (not_decide_n hc8) ?_
       refine oM hH6 rfl rfl ?_
       refine guard_yes rfl rfl (not_decide_n hc8) ?_
       refine oM hH6 rfl rfl ?_
       refine guard_yes rfl rfl (not_decide_n hc8) ?_
       refine ops_y hH6 rfl rfl (yv_neq rfl rfl) ?_
       refine ops_y hH6 rfl rfl (yv_pick_f rfl (not_decide_n hc8) rfl) ?_
       refine ops_nil (thn_n ?_)
       by_cases hc9 : (((B.rt m.toNat n.toNat g true o).2.1).toNat : Int) = (r.toNat : Int)
       ·skip
        have hok2 : (B.rt m.toNat n.toNat g true o).2.1 = r := toNatI.1 (by first | assumption | omega)
        have hgood : ((B.rt m.toNat n.toNat g true o).2.2 = true ∧ (B.rt m.toNat n.toNat g true o).1 = o ∧ (B.rt m.toNat n.toNat g true o).2.1 = r) := ⟨hok, hok1, hok2⟩
        refine cond_f rfl (not_decide_n hc9) ?_
        refine skip (thn_n (seq (region (oA hH6 rfl rfl (ops_nil (thn_n (ret ?_)))))))
        refine fin hH6 (fun w' hf => (res1 rfl (show RV _ _ _ (.tmp 10) _ from rfl))) (fun w' hf => ?_)
        first | exact congrArg (Value.int .i64) (B.cg1 (by omega)).symm | exact congrArg (Value.int .i64) (B.cg2 (by omega) (by omega)).symm | exact congrArg (Value.int .i64) (B.cg3 (by omega) (by omega) hbad).symm | exact congrArg (Value.int .i64) (B.cg4 (by omega) (by omega) hgood).symm
       ·skip
        have hbad : ¬ ((B.rt m.toNat n.toNat g true o).2.2 = true ∧ (B.rt m.toNat n.toNat g true o).1 = o ∧ (B.rt m.toNat n.toNat g true o).2.1 = r) := fun h => absurd (toNatI.2 h.2.2) (by first | assumption | omega)
        refine cond_t rfl (not_decide_t hc9) ?_
        refine seq (region (oA hH6 rfl rfl (ops_nil (thn_n (ret (thn_r ?_))))))
        refine fin hH6 (fun w' hf => (res1 rfl (show RV _ _ _ (.tmp 10) _ from rfl))) (fun w' hf => ?_)
        first | exact congrArg (Value.int .i64) (B.cg1 (by omega)).symm | exact congrArg (Value.int .i64) (B.cg2 (by omega) (by omega)).symm | exact congrArg (Value.int .i64) (B.cg3 (by omega) (by omega) hbad).symm | exact congrArg (Value.int .i64) (B.cg4 (by omega) (by omega) hgood).symm
      ·skip
       have hbad : ¬ ((B.rt m.toNat n.toNat g true o).2.2 = true ∧ (B.rt m.toNat n.toNat g true o).1 = o ∧ (B.rt m.toNat n.toNat g true o).2.1 = r) := fun h => absurd (toNatI.2 h.2.1) (by first | assumption | omega)
       refine guard_no rfl rfl (not_decide_t hc8) rfl ?_
       refine guard_no rfl rfl (not_decide_t hc8) rfl ?_
       refine guard_no rfl rfl (not_decide_t hc8) rfl ?_
       refine ops_y hH6 rfl rfl (yv_pick_t rfl (not_decide_t hc8) rfl) ?_
       refine ops_nil (thn_n ?_)
       refine cond_t rfl rfl ?_
       refine seq (region (oA hH6 rfl rfl (ops_nil (thn_n (ret (thn_r ?_))))))
       refine fin hH6 (fun w' hf => (res1 rfl (show RV _ _ _ (.tmp 10) _ from rfl))) (fun w' hf => ?_)
       first | exact congrArg (Value.int .i64) (B.cg1 (by omega)).symm | exact congrArg (Value.int .i64) (B.cg2 (by omega) (by omega)).symm | exact congrArg (Value.int .i64) (B.cg3 (by omega) (by omega) hbad).symm | exact congrArg (Value.int .i64) (B.cg4 (by omega) (by omega) hgood).symm
end Go.Fip
namespace Go.Fip.B
open Go.Fip
def inj (l : List (List UInt8)) : Prop := ∀ x ∈ l, ∀ y ∈ l, sm x = sm y → x = y
theorem inj.sub {l m : List (List UInt8)} (h : inj m) (hs : ∀ x ∈ l, x ∈ m) : inj l := fun x hx y hy e => h x (hs x hx) y (hs y hy) e
end Go.Fip.B
namespace Go.Fip.B
open Go.Fip
theorem ord_srt' {l : List En} (h : Ord l) : l.Pairwise bef := by
  rw [List.pairwise_iff_getElem]
  intro i j hi hj hij
  have := ord_all h j i hij hj
  rwa [nth_nat hi, nth_nat hj] at this
theorem dup_pw' {l : List En} (h : NoDup l) : l.Pairwise fun x y => ¬ x.n = y.n := by
  rw [List.pairwise_iff_getElem]
  intro i j hi hj hij
  have := h j hj i hij
  rwa [nth_nat hi, nth_nat hj] at this
theorem ck_sub {l m : List En} (h : ck l = 0) (hs : m.Sublist l) : ck m = 0 := by
  obtain ⟨h24, hin, hns, hnd, hord⟩ := ck_iff.1 h
  have hmem : ∀ i : Nat, i < m.length → ∃ j : Nat, j < l.length ∧ nth m (i : Int) = nth l (j : Int) := fun i hi => by
    have h1 : m[i] ∈ l := hs.subset (List.getElem_mem hi)
    obtain ⟨j, hj, e⟩ := List.getElem_of_mem h1
    exact ⟨j, hj, by rw [nth_nat hi, nth_nat hj, e]⟩
  have hp : m.Pairwise bef := (ord_srt' hord).sublist hs
  have hd : m.Pairwise fun x y => ¬ x.n = y.n := (dup_pw' hnd).sublist hs
  refine ck_iff.2 ⟨Nat.le_trans hs.length_le h24, fun i hi => ?_, fun i hi => ?_, fun i hi k hk => ?_, fun i hi h1 => ?_⟩
  · obtain ⟨j, hj, e⟩ := hmem i hi; rw [e]; exact hin j hj
  · obtain ⟨j, hj, e⟩ := hmem i hi; rw [e]; exact hns j hj
  · have := List.pairwise_iff_getElem.1 hd k i (by omega) hi hk
    rwa [nth_nat (by omega), nth_nat hi]
  · have := List.pairwise_iff_getElem.1 hp (i - 1) i (by omega) hi (by omega)
    rw [show (i : Int) - 1 = ((i - 1 : Nat) : Int) by omega, nth_nat (by omega), nth_nat hi]
    exact this
end Go.Fip.B
namespace Go.Fip.B
open Go.Fip
theorem half_mid {n m : Nat} (hn : n ≤ 64) (h2 : 2 ≤ n) (h : half n < m) (hm : m ≤ n) : half m = half n := by
  unfold half at *
  repeat' split
  all_goals first | rfl | (exfalso; omega) | skip
  all_goals (repeat' split at h) <;> omega
theorem lastW_end {l : List UInt64} {x : UInt64} : lastW (l ++ [x]) = x := by
  unfold lastW
  rw [List.length_append, List.length_singleton, show ((l.length + 1 : Nat) : Int) - 1 = (l.length : Int) by omega, nth_nat (by rw [List.length_append, List.length_singleton]; omega), List.getElem_append_right (Nat.le_refl _)]
  simp
theorem take_end {α : Type} {l : List α} {x : α} : (l ++ [x]).take ((l ++ [x]).length - 1) = l := by
  rw [List.length_append, List.length_singleton, Nat.add_sub_cancel]; exact List.take_left' rfl
theorem snoc_ne {α : Type} {l : List α} {x : α} : ¬ (l ++ [x]).length = 0 := by rw [List.length_append, List.length_singleton]; omega
theorem gw_rt : ∀ (n : Nat) (l : List En) (m : Nat) (w : Bool) (o : UInt64), l.length = n → n ≤ 64 → 1 ≤ m → m ≤ n → (w = true → o = root (l.take m)) →
    (rt m n (gw l m w) w o).1 = root (l.take m) ∧ (rt m n (gw l m w) w o).2.1 = root l ∧ (rt m n (gw l m w) w o).2.2 = true := by
  intro n
  induction n using Nat.strongRecOn with
  | _ n ih =>
    intro l m w o hl hn h1 hm ho
    by_cases he : m = n
    · have ht : l.take m = l := List.take_of_length_le (by omega)
      cases w with
      | true =>
        have hg := gw_all (l := l) h1 (by omega)
        rw [hg, rt_all h1 he, ho rfl, ht]
        exact ⟨rfl, rfl, rfl⟩
      | false =>
        have hg := gw_one (l := l) h1 (by omega)
        rw [hg, rt_last h1 he (by simp), ht]
        exact ⟨rfl, rfl, rfl⟩
    · have hlt : m < n := by omega
      have hh := half_lt (n := n) (by omega)
      have hr := root_two (l := l) (by omega)
      rw [hl] at hr
      by_cases hk : m ≤ half n
      · have hg := gw_left (l := l) (w := w) h1 (by omega) (by rw [hl]; exact hk)
        rw [hl] at hg
        rw [hg]
        have tt : (l.take (half n)).take m = l.take m := by rw [List.take_take, Nat.min_eq_left hk]
        obtain ⟨e1, e2, e3⟩ := ih (half n) (by omega) (l.take (half n)) m w o (by rw [List.length_take]; omega) (by omega) h1 hk (by rw [tt]; exact ho)
        rw [rt_l1 h1 hlt snoc_ne hk, rt_l2 h1 hlt snoc_ne hk, rt_l3 h1 hlt snoc_ne hk, take_end, lastW_end, e1, e2, e3, tt, hr]
        exact ⟨rfl, rfl, rfl⟩
      · have hg := gw_right (l := l) (w := w) h1 (by omega) (by rw [hl]; exact hk)
        rw [hl] at hg
        rw [hg]
        have hmid := half_mid hn (by omega) (by omega) hm
        obtain ⟨e1, e2, e3⟩ := ih (n - half n) (by omega) (l.drop (half n)) (m - half n) false o (by rw [List.length_drop]; omega) (by omega) (by omega) (by omega) (fun c => by cases c)
        rw [rt_r1 h1 hlt snoc_ne hk, rt_r2 h1 hlt snoc_ne hk, rt_r3 h1 hlt snoc_ne hk, take_end, lastW_end, e1, e2, e3, hr]
        refine ⟨?_, rfl, rfl⟩
        have hm2 := root_two (l := l.take m) (by rw [List.length_take]; omega)
        rw [List.length_take, Nat.min_eq_left (by omega), hmid, List.take_take, Nat.min_eq_left (by omega), List.drop_take] at hm2
        exact hm2.symm
theorem half_pow {n d : Nat} (h64 : n ≤ 64) (h2 : 2 ≤ n) (h : n ≤ 2 * 2 ^ d) : half n ≤ 2 ^ d := by
  have key : ∀ k : Nat, k < 6 → 2 ^ k < n → half n ≤ 2 ^ d ∨ True := fun _ _ _ => .inr trivial
  by_cases h6 : 6 ≤ d
  · have : 2 ^ 6 ≤ 2 ^ d := Nat.pow_le_pow_right (by decide) h6
    have := half_lt h2
    have : (2 : Nat) ^ 6 = 64 := rfl
    omega
  · have hd : d = 0 ∨ d = 1 ∨ d = 2 ∨ d = 3 ∨ d = 4 ∨ d = 5 := by omega
    unfold half
    rcases hd with rfl | rfl | rfl | rfl | rfl | rfl <;> simp at h ⊢ <;> (repeat' split) <;> omega
theorem gw_le : ∀ (d : Nat) (l : List En) (m : Nat) (w : Bool), l.length ≤ 2 ^ d → l.length ≤ 64 → 1 ≤ m → m ≤ l.length → (gw l m w).length ≤ d + 1 := by
  intro d
  induction d with
  | zero =>
    intro l m w h0 _ h1 hm
    have : l.length = 1 := by have : 2 ^ 0 = 1 := rfl; omega
    cases w with
    | true => rw [gw_all h1 (by omega)]; simp
    | false => rw [gw_one h1 (by omega)]; simp
  | succ d ih =>
    intro l m w h0 h64 h1 hm
    by_cases he : m = l.length
    · cases w with
      | true => rw [gw_all h1 he]; simp
      | false => rw [gw_one h1 he]; simp
    · have hh := half_lt (n := l.length) (by omega)
      have hp : 2 ^ (d + 1) = 2 * 2 ^ d := by rw [Nat.pow_succ]; omega
      have hhp : half l.length ≤ 2 ^ d := half_pow h64 (by omega) (by omega)
      have hhe := half_le (n := l.length) (by omega) h64
      by_cases hk : m ≤ half l.length
      · rw [gw_left h1 (by omega) hk, List.length_append, List.length_singleton]
        have := ih (l.take (half l.length)) m w (by rw [List.length_take]; omega) (by rw [List.length_take]; omega) h1 (by rw [List.length_take]; omega)
        omega
      · rw [gw_right h1 (by omega) hk, List.length_append, List.length_singleton]
        have := ih (l.drop (half l.length)) (m - half l.length) false (by rw [List.length_drop]; omega) (by rw [List.length_drop]; omega) (by omega) (by rw [List.length_drop]; omega)
        omega
theorem gw_zero {l : List En} {m : Nat} (h1 : 1 ≤ m) (hm : m ≤ l.length) : (gw l m true).length = 0 ↔ m = l.length := by
  constructor
  · intro h
    refine Decidable.byContradiction fun he => ?_
    by_cases hk : m ≤ half l.length
    · rw [gw_left h1 (by omega) hk] at h; exact snoc_ne h
    · rw [gw_right h1 (by omega) hk] at h; exact snoc_ne h
  · intro h; rw [gw_all h1 h]; rfl
theorem cg_self {l : List En} {m : Nat} (h24 : l.length ≤ 24) (h1 : 1 ≤ m) (hm : m ≤ l.length) : cg (m : Int) (l.length : Int) (gw l m true) (root (l.take m)) (root l) = 0 := by
  obtain ⟨e1, e2, e3⟩ := gw_rt l.length l m true (root (l.take m)) rfl (by omega) h1 hm (fun _ => rfl)
  exact cg4 (by omega) (by omega) (by rw [Int.toNat_natCast, Int.toNat_natCast]; exact ⟨e3, e1, e2⟩)
end Go.Fip.B
namespace Go.Fip
open Go.Proofs Go.RowKit
theorem yv_neqBB {P : Program} {N : Nat} {ds : List Deferred} {env : Env} {S : World → Prop} {x y : Operand} {T T' : TypeId} {a b : Bool} (hu : P.underlying T = some .bool) (hx : ev env x = some (.bool a)) (hy : ev env y = some (.bool b)) (e : a = b) : Yv P N ds env (.binOp .neq T x y T') (.bool false) S := fun act hact w _ _ _ _ _ _ => by
 subst e
 have h : (Op.equalIn Op.maxDepth T (.bool a) (.bool a)).run P w = .ok true w := by
  have key : ∀ d, (Op.equalIn (d + 1) T (.bool a) (.bool a)).run P w = .ok true w := fun d => by simp [Op.equalIn, run_underlying hu, Result.andThen]
  exact key 9999
 simp [execOp, hact.ev hx, hact.ev hy, eqGuard, binOp, Op.equal, h, Result.andThen]
theorem c10 {v : Value} {l : List En} {w : World} (h0 : Rd encE 5 v l w) (hG : Gl w) {a : Int} (ha : 0 ≤ a ∧ a ≤ 255)  :
  Fn Tryz.prog 10 [(.agg #[v]), (.int .u8 a)].toArray w (fun u _ => u = .bool true) := by
 refine fn_of' (args := [(.agg #[v]), (.int .u8 a)]) Tryz.func10 rfl (ent Tryz.func10 (by kernel_rfl) rfl) rfl rfl (fun hH => ?_)
 refine seq (region ?_)
 refine op_box (us := [v]) rfl rfl rfl hH (fun b1 w2 hH3 => ?_)
 refine oA hH3 rfl rfl (ops_nil (thn_n (seq (seq (region ?_)))))
 refine ops_y hH3 rfl rfl (yv_loadA (cs := [v]) T.agg24 rfl rfl (fun _ hw => Heap.cellsw hw (n := 0) rfl (k := 0) rfl)) ?_
 refine op_fnV rfl rfl rfl hH3 (c43 (h0.now hH3 (n := 1) rfl)) (fun w4 hH5 => ?_)
 refine ops_y hH5 rfl rfl (yv_not rfl) ?_
 refine oM hH5 rfl rfl ?_
 by_cases hc6 : B.ck l = 0
 ·skip
  refine guard_yes rfl rfl (not_decide_n hc6) ?_
  refine ops_y hH5 rfl rfl (yv_field T.f24_0 rfl) ?_
  refine guard_yes rfl rfl (not_decide_n hc6) ?_
  refine ops_y hH5 rfl rfl (yv_load T.one22 rfl (fun _ hw => Heap.cellw hw (n := 0) rfl rfl)) ?_
  refine guard_yes rfl rfl (not_decide_n hc6) ?_
  refine ops_y hH5 rfl rfl (yv_len T.sl22 rfl (h0.now hH5 (n := 1) rfl).is) ?_
  refine guard_yes rfl rfl (not_decide_n hc6) ?_
  refine ops_y hH5 rfl rfl (yv_eql rfl rfl) ?_
  refine ops_y hH5 rfl rfl (yv_pick_f rfl (not_decide_n hc6) rfl) ?_
  refine ops_nil (thn_n ?_)
  by_cases hc7 : (l.length : Int) = 0
  ·skip
   refine cond_t rfl (dT hc7) ?_
   refine seq (region ?_)
   refine op_fnV rfl rfl rfl hH5 (c18 (hG.now hH5 (n := 1) rfl)) (fun w8 hH9 => ?_)
   refine oA hH9 rfl rfl (ops_nil (thn_n (ret (thn_r ?_))))
   have hH10 := (hH9.sub (sC sR))
   refine fin hH10 (fun w' hf => (res1 rfl (show RV _ _ _ (.tmp 4) _ from rfl))) (fun w' hf => ?_)
   first | rfl | exact hbad.elim
  ·skip
   refine cond_f rfl (dF hc7) ?_
   refine skip (thn_n (seq ?_))
   have hc0 : B.ck l = 0 := by first | assumption | exact Decidable.not_not.1 ‹_›
   have hbk := B.ck_iff.1 hc0
   have hin0 := hbk.2.1
   have hl24 := hbk.1
   have hl1 : 1 ≤ l.length := by omega
   have hro := B.ro2 hc0
   obtain ⟨i, hi⟩ : ∃ i : Nat, (i : Int) = a % (l.length : Int) := ⟨(a % (l.length : Int)).toNat, Int.toNat_of_nonneg (Int.emod_nonneg _ (by omega))⟩
   have hil : i < l.length := by have := Int.emod_lt_of_pos a (show (0 : Int) < (l.length : Int) by omega); omega
   obtain ⟨m, hm⟩ : ∃ m, m = i + 1 := ⟨_, rfl⟩
   have hm1 : 1 ≤ m := by omega
   have hml : m ≤ l.length := by omega
   have htl : (l.take (m : Int).toNat).length ≤ 24 := by rw [List.length_take]; omega
   have hrm : B.rootR (l.take (m : Int).toNat) = ((B.root (l.take (m : Int).toNat)), 0) := B.ro2 (B.ck_sub hc0 (List.take_sublist _ _))
   have hgr : B.gwR l (m : Int) = (B.gw l m true, 0) := B.gr3 hc0 (by omega)
   have hgl := B.gw_le 5 l m true (Nat.le_trans hl24 (by decide)) (by omega) hm1 hml
   have hgz := B.gw_zero hm1 hml
   have hcg : B.cg (m : Int) (l.length : Int) (B.gw l m true) (B.root (l.take (m : Int).toNat)) (B.root l) = 0 := B.cg_self hl24 hm1 hml
   refine region ?_
   refine ops_y hH5 rfl rfl (yv_field T.f24_0 rfl) ?_
   refine ops_y hH5 rfl rfl (yv_load T.one22 rfl (fun _ hw => Heap.cellw hw (n := 0) rfl rfl)) ?_
   refine ops_y hH5 rfl rfl (yv_len T.sl22 rfl (h0.now hH5 (n := 1) rfl).is) ?_
   refine oA hH5 rfl rfl (ops_nil (thn_n (seq (region (oM hH5 rfl rfl ?_)))))
   refine ops_y hH5 rfl rfl (yv_conv Tryz.underlying5 Tryz.underlying3 rfl (wrap_i64 (by omega))) ?_
   refine oM hH5 rfl rfl ?_
   refine ops_y hH5 rfl rfl (yv_cast (show _ = (i : Int) from hi.symm) (yv_rem rfl rfl (by omega) (by omega))) ?_
   refine ops_y hH5 rfl rfl (yv_cast (show _ = (m : Int) by omega) (yv_add rfl rfl (by omega))) ?_
   refine oA hH5 rfl rfl (ops_nil (thn_n (seq (region ?_))))
   refine ops_y hH5 rfl rfl (yv_loadA (cs := [v]) T.agg24 rfl rfl (fun _ hw => Heap.cellsw hw (n := 0) rfl (k := 0) rfl)) ?_
   refine op_fnV rfl rfl rfl hH5 ((by have h := c25  (h0.now hH5 (n := 1) rfl) (by omega) (hG.now hH5 (n := 1) rfl); simp only [hro] at h; exact h)) (fun w11 hH12 => ?_)
   refine oM hH12 rfl rfl (ops_y hH12 rfl rfl (yv_extract rfl rfl) (ops_y hH12 rfl rfl (yv_extract rfl rfl) (oA hH12 rfl rfl (oA hH12 rfl rfl (ops_nil (thn_n (seq (region ?_))))))))
   refine ops_y hH12 rfl rfl (yv_loadA (cs := [v]) T.agg24 rfl rfl (fun _ hw => Heap.cellsw hw (n := 0) rfl (k := 0) rfl)) ?_
   refine oM hH12 rfl rfl ?_
   refine op_fnV rfl rfl rfl hH12 (c49 (k := (m : Int)) (h0.now hH12 (n := 1) rfl) (by omega)) (fun w13 hH14 => ?_)
   refine op_fnV rfl rfl rfl hH14 ((by have h := c25  (Rd.upto (h0.now hH14 (n := 1) rfl) (hi := (m : Int).toNat) (by omega)) (by omega) (hG.now hH14 (n := 1) rfl); simp only [hrm] at h; exact h)) (fun w15 hH16 => ?_)
   refine oM hH16 rfl rfl (ops_y hH16 rfl rfl (yv_extract rfl rfl) (ops_y hH16 rfl rfl (yv_extract rfl rfl) (oA hH16 rfl rfl (oA hH16 rfl rfl (ops_nil (thn_n (seq (region ?_))))))))
   refine ops_y hH16 rfl rfl (yv_loadA (cs := [v]) T.agg24 rfl rfl (fun _ hw => Heap.cellsw hw (n := 0) rfl (k := 0) rfl)) ?_
   refine oM hH16 rfl rfl ?_
   refine op_fn rfl rfl rfl hH16 ((by have h := c32 (m := (m : Int)) (h0.now hH16 (n := 1) rfl) (by omega) (hG.now hH16 (n := 1) rfl); simp only [hgr] at h; exact h)) (fun u19 w17 lo20 hi21 hH18 hv22 => ?_)
   obtain ⟨p24, hu, -⟩ := hv22
   subst hu
   have hH23 := Heap.tup2 hH18 (n := 0) rfl
   refine oM hH23 rfl rfl (ops_y hH23 rfl rfl (yv_extract rfl rfl) (ops_y hH23 rfl rfl (yv_extract rfl rfl) (oA hH23 rfl rfl (oA hH23 rfl rfl (ops_nil (thn_n (seq (seq (region ?_)))))))))
   refine oM hH23 rfl rfl ?_
   refine ops_y hH23 rfl rfl (yv_neq rfl rfl) ?_
   refine oM hH23 rfl rfl (guard_yes rfl rfl rfl (oM hH23 rfl rfl (guard_yes rfl rfl rfl ?_)))
   refine ops_y hH23 rfl rfl (yv_neq rfl rfl) ?_
   refine ops_y hH23 rfl rfl (yv_pick_f rfl rfl rfl) ?_
   refine oM hH23 rfl rfl (guard_yes rfl rfl rfl (oM hH23 rfl rfl (guard_yes rfl rfl rfl ?_)))
   refine ops_y hH23 rfl rfl (yv_neq rfl rfl) ?_
   refine ops_y hH23 rfl rfl (yv_pick_f rfl rfl rfl) ?_
   refine oM hH23 rfl rfl (guard_yes rfl rfl rfl (oM hH23 rfl rfl (guard_yes rfl rfl rfl ?_)))
   refine ops_y hH23 rfl rfl (yv_len T.sl39 rfl (Heap.rdw T.el39_encW hH23 (n := 0) rfl).is) ?_
   refine guard_yes rfl rfl rfl ?_
   refine ops_y hH23 rfl rfl (yv_gtr rfl rfl) ?_
   refine ops_y hH23 rfl rfl (yv_pick_f rfl rfl rfl) ?_
   refine oM hH23 rfl rfl ?_
   by_cases hc25 : 6 < ((B.gw l m true).length : Int)
   ·skip
    refine guard_no rfl rfl (dT hc25) rfl ?_
    refine guard_no rfl rfl (dT hc25) rfl ?_
    refine guard_no rfl rfl (dT hc25) rfl ?_
    refine guard_no rfl rfl (dT hc25) rfl ?_
    refine guard_no rfl rfl (dT hc25) rfl ?_
    refine guard_no rfl rfl (dT hc25) rfl ?_
    refine guard_no rfl rfl (dT hc25) rfl ?_
    refine ops_y hH23 rfl rfl (yv_pick_t rfl (dT hc25) rfl) ?_
    refine ops_nil (thn_n ?_)
    refine cond_t rfl rfl ?_
    refine seq ?_
    have hbad : False := by omega
    refine region (oA hH23 rfl rfl (ops_nil (thn_n (ret (thn_r ?_)))))
    have hH26 := (hH23.sub (sC (sC sR)))
    refine fin hH26 (fun w' hf => (res1 rfl (show RV _ _ _ (.tmp 4) _ from rfl))) (fun w' hf => ?_)
    first | rfl | exact hbad.elim
   ·skip
    refine guard_yes rfl rfl (dF hc25) ?_
    refine oM hH23 rfl rfl ?_
    refine guard_yes rfl rfl (dF hc25) ?_
    refine ops_y hH23 rfl rfl (yv_len T.sl39 rfl (Heap.rdw T.el39_encW hH23 (n := 0) rfl).is) ?_
    refine guard_yes rfl rfl (dF hc25) ?_
    refine ops_y hH23 rfl rfl (yv_eql rfl rfl) ?_
    refine guard_yes rfl rfl (dF hc25) ?_
    refine oM hH23 rfl rfl ?_
    refine guard_yes rfl rfl (dF hc25) ?_
    refine oM hH23 rfl rfl ?_
    refine guard_yes rfl rfl (dF hc25) ?_
    refine ops_y hH23 rfl rfl (yv_eql rfl rfl) ?_
    refine guard_yes rfl rfl (dF hc25) ?_
    refine ops_y hH23 rfl rfl (yv_neqBB Tryz.underlying4 rfl rfl (decide_eq_decide.2 (by omega))) ?_
    refine ops_y hH23 rfl rfl (yv_pick_f rfl (dF hc25) rfl) ?_
    refine ops_nil (thn_n ?_)
    refine cond_f rfl rfl ?_
    refine skip (thn_n (seq (region (oM hH23 rfl rfl (oM hH23 rfl rfl (oM hH23 rfl rfl (oM hH23 rfl rfl (oM hH23 rfl rfl ?_))))))))
    refine op_fnV rfl rfl rfl hH23 ((by have h := c34 (m := (m : Int)) (n := (l.length : Int)) (o := (B.root (l.take (m : Int).toNat))) (r := (B.root l)) (hG.now hH23 (n := 2) rfl) (Heap.rdw T.el39_encW hH23 (n := 0) rfl) (by omega); simp only [hcg] at h; exact h)) (fun w27 hH28 => ?_)
    refine ops_y hH28 rfl rfl (yv_eql rfl rfl) ?_
    refine oM hH28 rfl rfl (guard_yes rfl rfl rfl (oM hH28 rfl rfl (guard_yes rfl rfl rfl (oM hH28 rfl rfl (guard_yes rfl rfl rfl (oM hH28 rfl rfl (guard_yes rfl rfl rfl (oM hH28 rfl rfl (guard_yes rfl rfl rfl ?_)))))))))
    refine oM hH28 rfl rfl (guard_yes rfl rfl rfl ?_)
    refine op_fnV rfl rfl rfl hH28 ((by have h := c35 (m := (m : Int)) (n := (l.length : Int)) (o := (B.root (l.take (m : Int).toNat))) (r := (B.root l))  (Heap.rdw T.el39_encW hH28 (n := 0) rfl) (by omega); simp only [hcg] at h; exact h)) (fun w29 hH30 => ?_)
    refine guard_yes rfl rfl rfl ?_
    refine ops_y hH30 rfl rfl (yv_eql rfl rfl) ?_
    refine ops_y hH30 rfl rfl (yv_pick_t rfl rfl rfl) ?_
    refine oM hH30 rfl rfl (guard_yes rfl rfl rfl ?_)
    refine op_fnV rfl rfl rfl hH30 (c18 (hG.now hH30 (n := 2) rfl)) (fun w31 hH32 => ?_)
    refine ops_y hH32 rfl rfl (yv_pick_t rfl rfl rfl) ?_
    refine oA hH32 rfl rfl (ops_nil (thn_n (ret ?_)))
    have hH33 := (hH32.sub (sC (sC sR)))
    refine fin hH33 (fun w' hf => (res1 rfl (show RV _ _ _ (.tmp 4) _ from rfl))) (fun w' hf => ?_)
    first | rfl | exact hbad.elim
 ·skip
  refine guard_no rfl rfl (not_decide_t hc6) rfl ?_
  refine guard_no rfl rfl (not_decide_t hc6) rfl ?_
  refine guard_no rfl rfl (not_decide_t hc6) rfl ?_
  refine guard_no rfl rfl (not_decide_t hc6) rfl ?_
  refine ops_y hH5 rfl rfl (yv_pick_t rfl (not_decide_t hc6) rfl) ?_
  refine ops_nil (thn_n ?_)
  refine cond_t rfl rfl ?_
  refine seq (region ?_)
  refine op_fnV rfl rfl rfl hH5 (c18 (hG.now hH5 (n := 1) rfl)) (fun w34 hH35 => ?_)
  refine oA hH35 rfl rfl (ops_nil (thn_n (ret (thn_r ?_))))
  have hH36 := (hH35.sub (sC sR))
  refine fin hH36 (fun w' hf => (res1 rfl (show RV _ _ _ (.tmp 4) _ from rfl))) (fun w' hf => ?_)
  first | rfl | exact hbad.elim
end Go.Fip
