/- Walks of the law, and what it alone needs, by program (wip/tools). -/
import Derived.Test.YtfomadbnfcadnaaGreatDoorMJ
set_option linter.unusedVariables false
set_option linter.unusedSimpArgs false
set_option linter.unusedSectionVars false
set_option linter.unnecessarySimpa false
namespace Go.Fip
theorem sC {α : Type} {a : α} {l m : List α} (h : l.Sublist m) : l.Sublist (a :: m) := .cons a h
theorem sR {α : Type} {l : List α} : l.Sublist l := .refl l
theorem uC {env env' : Env} {i : Nat} {v : Value} (h : env.find i = some v) (hs : Sub env' env) : Sub ((i, v) :: env') env := Sub.cons h hs
theorem dF {p : Prop} [Decidable p] (h : ¬ p) : decide p = false := decide_eq_false h
theorem dT {p : Prop} [Decidable p] (h : p) : decide p = true := decide_eq_true h
section
variable {r : Option Nat} {P : Program} {N : Nat} {S : World → Prop} {ds : List Deferred} {env : Env} {w : World} {Q : Post} {all : Array Oper} {rest : List Oper} {d : Nat} {x : Operand} {ty : TypeId} {pos : String} {after : Array Edge} {v : Value}
theorem oM (hS : S w) (hd : Nat.blt d N = true) (hx : ev env x = some v) (h : Ops r P N all rest ds ((d, v) :: env) w Q) : Ops r P N all (⟨some d, .move x, ty, pos, after, none⟩ :: rest) ds env w Q := ops_y hS rfl hd (yv_move hx) h
theorem oA (hS : S w) (hd : Nat.blt d N = true) (hx : ev env x = some v) (h : Ops r P N all rest ds ((d, v) :: env) w Q) : Ops r P N all (⟨some d, .assign x, ty, pos, after, none⟩ :: rest) ds env w Q := ops_y hS rfl hd (yv_assign hx) h
end
section
variable {P : Program} {N : Nat} {S : World → Prop} {ops : Array Oper} {ds : List Deferred} {env : Env} {K : Env → Prop} {i : Nat} {is : List Nat} {d : Nat} {x : Operand} {ty : TypeId} {pos : String} {after : Array Edge} {v : Value}
theorem qM (hi : ops[i]? = some ⟨some d, .move x, ty, pos, after, none⟩) (hN : Nat.blt d N = true) (hx : ev env x = some v) (h : Qs P N S ops ds K is ((d, v) :: env)) : Qs P N S ops ds K (i :: is) env := qs_y hi hN (yv_move hx) h
theorem qW {j : Nat} {want : Bool} {s : Nat} {b : Bool} (hi : ops[i]? = some ⟨some d, .move x, ty, pos, after, some (j, want)⟩) (hj : (ops[j]?).bind (·.dst) = some s) (hs : env.find s = some (.bool b)) (hb : b = want) (hN : Nat.blt d N = true) (hx : ev env x = some v) (h : Qs P N S ops ds K is ((d, v) :: env)) : Qs P N S ops ds K (i :: is) env := qs_yes hi hj hs hb hN (yv_move hx) h
end
end Go.Fip
namespace Go.Fip
open Go.RowKit
section
variable {P : Program} {N : Nat} {ds : List Deferred} {env : Env} {S : World → Prop} {x y z : Operand} {T T' : TypeId} {a b : List UInt8}
theorem yv_subS_lo {k : IntKind} {l : Int} (hT : P.underlying T = some .string) (hx : ev env x = some (str a)) (hy : ev env y = some (.int k l)) (hb : 0 ≤ l ∧ l ≤ (a.length : Int)) : Yv P N ds env (.slice T x (some y) none none) (str (a.drop l.toNat)) S := fun act hact w _ _ _ _ _ _ => by
  have e2 := run_bound (P := P) (w := w) (k := k) (i := l) (n := a.length) (code := .sliceB) hb.1 hb.2
  have e3 : (⟨a.toArray⟩ : ByteArray).extract l.toNat a.length = ⟨(a.drop l.toNat).toArray⟩ := by
    rw [Go.Lib.extract_eq]
    show (⟨((a.drop l.toNat).take (a.length - l.toNat)).toArray⟩ : ByteArray) = _
    rw [List.take_of_length_le (by rw [List.length_drop]; omega)]
  simp [execOp, hact.ev hx, hact.ev hy, str, Instr.sliceAt, Instr.slice, Instr.sliceBounds, run_underlying hT, size_str, e2, e3, Result.andThen]
theorem yv_subS_hi {k : IntKind} {h : Int} (hT : P.underlying T = some .string) (hx : ev env x = some (str a)) (hz : ev env z = some (.int k h)) (hb : 0 ≤ h ∧ h ≤ (a.length : Int)) : Yv P N ds env (.slice T x none (some z) none) (str (a.take h.toNat)) S := fun act hact w _ _ _ _ _ _ => by
  have e1 := run_bound (P := P) (w := w) (k := k) (i := h) (n := a.length) (code := .sliceAlen) hb.1 hb.2
  have e3 : (⟨a.toArray⟩ : ByteArray).extract 0 h.toNat = ⟨(a.take h.toNat).toArray⟩ := by
    rw [Go.Lib.extract_eq]
    show (⟨((a.drop 0).take (h.toNat - 0)).toArray⟩ : ByteArray) = _
    rw [List.drop_zero, Nat.sub_zero]
  simp [execOp, hact.ev hx, hact.ev hz, str, Instr.sliceAt, Instr.slice, Instr.sliceBounds, run_underlying hT, size_str, e1, e3, Result.andThen]
end
end Go.Fip
namespace Go.Fip
open Go.ChangeShapes Go.WideShapes Go.ChangeAt Go.RowKit
section
variable {H : Type} {enc : TypeId × Value → H} {P : Program} {w : World}
theorem trodAll_below (hl : laidOutB P = true) {W W' : World} (hb : Below W.heap.size W W') : ∀ (ts : List TypeId) (vs : List Value) (ds : List (DataW H)) (ps : List MemPlace), (ts.all fun t => P.readableRec t && decide (t < P.types.size)) = true →
    DataW.TrodAll enc P W 0 (fun _ => true) true ts vs ds ps → (∀ x ∈ ps, x.block < W.heap.size) → DataW.TrodAll enc P W' 0 (fun b => decide (b < W.heap.size)) true ts vs ds ps
  | [], vs, ds, ps, _, h, _ => by
    obtain ⟨rfl, rfl, rfl⟩ := trodAll_nil h
    rfl
  | t :: ts, vs, ds, ps, hr, h, hlt => by
    obtain ⟨v, vs, d, ds, p, q, rfl, rfl, rfl, h1, h2⟩ := trodAll_cons h
    simp only [List.all_cons, Bool.and_eq_true, decide_eq_true_eq] at hr
    exact ⟨p, q, Below.trod hl hr.1.1 hr.1.2 h1 hb (fun x hx => hlt x (List.mem_append_left _ hx)), trodAll_below hl hb ts vs ds q (by simpa using hr.2) h2 (fun x hx => hlt x (List.mem_append_right _ hx)), rfl⟩
theorem law_post {f : Func} {s : ChangeSpec} {apart fresh : Bool} {W W' : World} {args : Array Value} {ds : List (DataW H)} {before p : List MemPlace} {tb : TypeId} (hl : laidOutB P = true) (hb : Below W.heap.size W W')
    (hr : (f.params.toList.all fun t => P.readableRec t && decide (t < P.types.size)) = true) (hv : s.vars = []) (hW : DataW.Whole enc P f.params.toList s.vars apart W args.toList ds [] before)
    (hA : DataW.TrodAll enc P W 0 (fun _ => true) true f.params.toList args.toList ds p) (hp : before = p) (hrt : f.resultTypes = #[tb]) (htb : P.underlying tb = some .bool) (hs : s.fn H (ds ++ []) = { results := [.lit (.bool true)], args := ds }) :
    s.post enc P f apart fresh false false W args (.bool true) W' := by
  subst hp
  refine ⟨ds, [], before, [], before, [], hW, ?_, ?_, ?_, Below.frame hb _, fun h => by cases h⟩
  · rw [hs, hrt]; exact trodAll_mk1 (shut_bool htb _)
  · rw [hs]; exact trodAll_below hl hb _ _ _ _ hr hA (fun x hx => by simpa using hW.lt x hx)
  · rw [hs, hv]; rfl
end
end Go.Fip
namespace Go.Fip
open Go.Proofs Go.RowKit
namespace K
theorem k1 : B.balR B.three 2 11 = (180, 0) := by decide +kernel
theorem k2 : B.balR B.three 3 9 = (0, 0) := by decide +kernel
end K
end Go.Fip
namespace Go.Fip.B
open Go.Fip
def strsF : Nat → List En → List (List UInt8)
  | 0, _ => []
  | f + 1, l => if l.length = 0 then [[]] else if l.length = 1 then [leaf (nth l 0)] else strsF f (l.take (half l.length)) ++ strsF f (l.drop (half l.length)) ++ [both (root (l.take (half l.length))) (root (l.drop (half l.length)))]
def strs (l : List En) : List (List UInt8) := strsF (l.length + 1) l
theorem strsF_fuel : ∀ (f g : Nat) (l : List En), l.length < f → l.length < g → strsF f l = strsF g l
  | 0, g, l, h, _ => absurd h (Nat.not_lt_zero _)
  | f + 1, 0, l, _, h => absurd h (Nat.not_lt_zero _)
  | f + 1, g + 1, l, h1, h2 => by
    unfold strsF
    split
    · rfl
    split
    · rfl
    · have hh := half_lt (n := l.length) (by omega)
      rw [strsF_fuel f g (l.take (half l.length)) (by rw [List.length_take]; omega) (by rw [List.length_take]; omega), strsF_fuel f g (l.drop (half l.length)) (by rw [List.length_drop]; omega) (by rw [List.length_drop]; omega)]
theorem strs_nil {l : List En} (h : l.length = 0) : strs l = [[]] := by unfold strs strsF; rw [if_pos h]
theorem strs_one {l : List En} (h : l.length = 1) : strs l = [leaf (nth l 0)] := by unfold strs strsF; rw [if_neg (by omega), if_pos h]
theorem strs_two {l : List En} (h : 2 ≤ l.length) : strs l = strs (l.take (half l.length)) ++ strs (l.drop (half l.length)) ++ [both (root (l.take (half l.length))) (root (l.drop (half l.length)))] := by
  have hh := half_lt (n := l.length) (by omega)
  conv => lhs; unfold strs strsF
  rw [if_neg (by omega), if_neg (by omega)]
  unfold strs
  rw [strsF_fuel l.length ((l.take (half l.length)).length + 1) _ (by rw [List.length_take]; omega) (Nat.lt_succ_self _), strsF_fuel l.length ((l.drop (half l.length)).length + 1) _ (by rw [List.length_drop]; omega) (Nat.lt_succ_self _)]
def coll (l : List (List UInt8)) : Prop := ∃ i : Nat, i < l.length ∧ ∃ j : Nat, j < i ∧ sm (nth l (j : Int)) = sm (nth l (i : Int)) ∧ ¬ nth l (j : Int) = nth l (i : Int)
instance {l : List (List UInt8)} : Decidable (coll l) := by unfold coll; infer_instance
def inj (l : List (List UInt8)) : Prop := ∀ x ∈ l, ∀ y ∈ l, sm x = sm y → x = y
theorem inj_of {l : List (List UInt8)} (h : ¬ coll l) : inj l := by
  intro x hx y hy e
  obtain ⟨i, hi, rfl⟩ := List.getElem_of_mem hx
  obtain ⟨j, hj, rfl⟩ := List.getElem_of_mem hy
  refine Decidable.byContradiction fun hne => h ?_
  rcases Nat.lt_trichotomy i j with h1 | h1 | h1
  · exact ⟨j, hj, i, h1, by rw [nth_nat hi, nth_nat hj]; exact e, by rw [nth_nat hi, nth_nat hj]; exact hne⟩
  · subst h1; exact absurd rfl hne
  · exact ⟨i, hi, j, h1, by rw [nth_nat hi, nth_nat hj]; exact e.symm, by rw [nth_nat hi, nth_nat hj]; exact fun c => hne c.symm⟩
theorem inj.sub {l m : List (List UInt8)} (h : inj m) (hs : ∀ x ∈ l, x ∈ m) : inj l := fun x hx y hy e => h x (hs x hx) y (hs y hy) e
theorem strs_mem_left {l : List En} (h : 2 ≤ l.length) : ∀ x ∈ strs (l.take (half l.length)), x ∈ strs l := fun x hx => by
  rw [strs_two h]; exact List.mem_append_left _ (List.mem_append_left _ hx)
theorem strs_mem_right {l : List En} (h : 2 ≤ l.length) : ∀ x ∈ strs (l.drop (half l.length)), x ∈ strs l := fun x hx => by
  rw [strs_two h]; exact List.mem_append_left _ (List.mem_append_right _ hx)
theorem strs_mem_top {l : List En} (h : 2 ≤ l.length) : both (root (l.take (half l.length))) (root (l.drop (half l.length))) ∈ strs l := by
  rw [strs_two h]; exact List.mem_append_right _ (List.mem_singleton.2 rfl)
theorem strs_mem_one {l : List En} (h : l.length = 1) : leaf (nth l 0) ∈ strs l := by rw [strs_one h]; exact List.mem_singleton.2 rfl
theorem inR_take {l : List En} (h : InR l) (k : Nat) : InR (l.take k) := fun i hi => by
  rw [List.length_take] at hi
  have := h i (by omega)
  rw [nth_nat (by omega)] at this
  rw [nth_nat (by rw [List.length_take]; omega), List.getElem_take]; exact this
theorem inR_drop {l : List En} (h : InR l) (k : Nat) : InR (l.drop k) := fun i hi => by
  rw [List.length_drop] at hi
  have := h (k + i) (by omega)
  rw [nth_nat (by omega)] at this
  rw [nth_nat (by rw [List.length_drop]; omega), List.getElem_drop]; exact this
theorem root_eq {S : List (List UInt8)} (hS : inj S) : ∀ (n : Nat) (l m : List En), l.length = n → m.length = n → InR l → InR m → (∀ x ∈ strs l, x ∈ S) → (∀ x ∈ strs m, x ∈ S) → root l = root m → l = m := by
  intro n
  induction n using Nat.strongRecOn with
  | _ n ih =>
    intro l m hl hm hil him hsl hsm he
    by_cases h0 : n = 0
    · rw [List.eq_nil_of_length_eq_zero (hl.trans h0), List.eq_nil_of_length_eq_zero (hm.trans h0)]
    by_cases h1 : n = 1
    · rw [root_one (by omega), root_one (by omega)] at he
      have h2 := hS _ (hsl _ (strs_mem_one (by omega))) _ (hsm _ (strs_mem_one (by omega))) he
      have h3 := leaf_inj (hil 0 (by omega)) (him 0 (by omega)) h2
      obtain ⟨a, rfl⟩ : ∃ a, l = [a] := List.length_eq_one_iff.1 (by omega)
      obtain ⟨b, rfl⟩ : ∃ b, m = [b] := List.length_eq_one_iff.1 (by omega)
      have h4 : a = b := h3
      rw [h4]
    · have hh := half_lt (n := n) (by omega)
      rw [root_two (l := l) (by omega), root_two (l := m) (by omega)] at he
      have h2 := hS _ (hsl _ (strs_mem_top (by omega))) _ (hsm _ (strs_mem_top (by omega))) he
      obtain ⟨h3, h4⟩ := both_inj h2
      rw [hl] at h3 h4
      rw [hm] at h3 h4
      have e1 := ih (half n) (by omega) (l.take (half n)) (m.take (half n)) (by rw [List.length_take]; omega) (by rw [List.length_take]; omega) (inR_take hil _) (inR_take him _)
        (fun x hx => hsl x (by have := strs_mem_left (l := l) (by omega) x; rw [hl] at this; exact this hx)) (fun x hx => hsm x (by have := strs_mem_left (l := m) (by omega) x; rw [hm] at this; exact this hx)) h3
      have e2 := ih (n - half n) (by omega) (l.drop (half n)) (m.drop (half n)) (by rw [List.length_drop]; omega) (by rw [List.length_drop]; omega) (inR_drop hil _) (inR_drop him _)
        (fun x hx => hsl x (by have := strs_mem_right (l := l) (by omega) x; rw [hl] at this; exact this hx)) (fun x hx => hsm x (by have := strs_mem_right (l := m) (by omega) x; rw [hm] at this; exact this hx)) h4
      rw [← List.take_append_drop (half n) l, ← List.take_append_drop (half n) m, e1, e2]
end Go.Fip.B
namespace Go.Fip
open Go.Proofs Go.RowKit
theorem B.nth_map_sm {l : List (List UInt8)} {i j : Nat} (hj : j < i) (hi : i ≤ l.length) : nth ((l.take i).map B.sm) (j : Int) = B.sm (nth l (j : Int)) := by
 rw [nth_nat (by rw [List.length_map, List.length_take]; omega), nth_nat (by omega), List.getElem_map, List.getElem_take]
theorem B.map_sm_succ {l : List (List UInt8)} {i : Nat} (hi : i < l.length) : (l.take i).map B.sm ++ [B.sm (nth l (i : Int))] = (l.take (i + 1)).map B.sm := by
 rw [List.take_succ_eq_append_getElem hi, List.map_append, nth_nat hi]; rfl
theorem word_eq {a b : UInt64} (h : (a.toNat : Int) = (b.toNat : Int)) : a = b := UInt64.toNat_inj.1 (by omega)
theorem word_ne {a b : UInt64} (h : ¬ (a.toNat : Int) = (b.toNat : Int)) : ¬ a = b := fun e => h (by rw [e])
theorem c47 {v : Value} {l : List (List UInt8)} {w : World} (h0 : Rd encT 1 v l w) (hn : l.length ≤ 1000000) (hlen : ∀ x ∈ l, x.length ≤ 1000)  :
  Fn Tryz.prog 47 [v].toArray w (fun u _ => u = .bool (decide (B.coll l))) := by
 refine fn_of' (args := [v]) Tryz.func47 rfl (ent Tryz.func47 (by kernel_rfl) rfl) rfl rfl (fun hH => ?_)
 refine seq (region (oA hH rfl rfl (ops_nil (thn_n (seq (region (oA hH rfl rfl (ops_nil (thn_n ?_)))))))))
 refine seq (seq (region (oA hH rfl rfl (ops_nil (thn_n (block ?_))))))
 have hH1 := ow_nil (enc := encW) 32 1 hH
 refine loop (S := Nat × Value × Nat × Nat) (fun (i, v_3, lo_3, hi_3) => [(4, (.int .i64 (i : Int))), (3, v_3), (0, v)]) (fun (i, v_3, lo_3, hi_3) w1 => Heap [ow lo_3 hi_3 32 1 encW v_3 ((l.take i).map B.sm), base w] w1 ∧ i ≤ l.length ∧ ∀ i2 : Nat, i2 < i → ∀ j : Nat, j < i2 → ¬ (B.sm (nth l (j : Int)) = B.sm (nth l (i2 : Int)) ∧ ¬ nth l (j : Int) = nth l (i2 : Int))) (fun (i, v_3, lo_3, hi_3) => l.length - i) (0, (.slice none 0 0), w.heap.size, w.heap.size) (uC rfl (uC rfl (uC rfl (Sub.nil _)))) ?_ ?_
 ·exact ⟨(Heap.recast (n := 0) hH1 rfl (rfl)), by omega, fun i2 h => by omega⟩
 ·rintro ⟨i, v_3, lo_3, hi_3⟩ w2 ⟨hH3, hi, hall⟩
  show Holds _ _ _ _ _ [(4, (.int .i64 (i : Int))), (3, v_3), (0, v)] _ _
  have hml : ((l.take i).map B.sm).length = i := by rw [List.length_map, List.length_take]; omega
  refine seq (seq (region (oM hH3 rfl rfl (oM hH3 rfl rfl ?_))))
  refine ops_y hH3 rfl rfl (yv_len T.sl56 rfl (h0.now hH3 (n := 1) rfl).is) ?_
  refine ops_y hH3 rfl rfl (yv_lss rfl rfl) ?_
  refine ops_nil (thn_n ?_)
  by_cases hc4 : (i : Int) < (l.length : Int)
  ·skip
   refine cond_t rfl (dT hc4) ?_
   refine skip (thn_n (seq (block (seq ?_))))
   have hli : (nth l (i : Int)).length ≤ 1000 := hlen _ (B.nth_mem (by omega))
   refine region (oM hH3 rfl rfl (oM hH3 rfl rfl ?_))
   refine ops_y hH3 rfl rfl (yv_index T.sl56 rfl rfl (h0.now hH3 (n := 1) rfl).is (by omega)) ?_
   refine ops_y hH3 rfl rfl (yv_load T.one9 rfl (fun _ hw => Rd.at (h0.now hw (n := 1) rfl) (i := (i : Int)) (by omega) (j := 0) rfl)) ?_
   refine op_fnV rfl rfl rfl hH3 (c69 (l := (nth l (i : Int))) (by first | omega | exact Nat.le_trans hli (by decide))) (fun w5 hH6 => ?_)
   refine oA hH6 rfl rfl (ops_nil (thn_n (seq (seq (region (oA hH6 rfl rfl (ops_nil (thn_n (block ?_)))))))))
   refine loop (S := Nat) (fun j => [(6, (.int .i64 (j : Int))), (0, v), (3, v_3), (4, (.int .i64 (i : Int))), (5, (.int .u64 ((B.sm (nth l (i : Int))).toNat : Int)))]) (fun j w1 => Heap [ow lo_3 hi_3 32 1 encW v_3 ((l.take i).map B.sm), base w] w1 ∧ j ≤ i ∧ ∀ j2 : Nat, j2 < j → ¬ (B.sm (nth l (j2 : Int)) = B.sm (nth l (i : Int)) ∧ ¬ nth l (j2 : Int) = nth l (i : Int))) (fun j => i - j) (0) (uC rfl (uC rfl (uC rfl (uC rfl (uC rfl (Sub.nil _)))))) ?_ ?_
   ·exact ⟨hH6, by omega, fun j2 h => by omega⟩
   ·rintro j w7 ⟨hH8, hj, hal2⟩
    show Holds _ _ _ _ _ [(6, (.int .i64 (j : Int))), (0, v), (3, v_3), (4, (.int .i64 (i : Int))), (5, (.int .u64 ((B.sm (nth l (i : Int))).toNat : Int)))] _ _
    have hnm : j < i → nth ((l.take i).map B.sm) (j : Int) = B.sm (nth l (j : Int)) := fun h => B.nth_map_sm h (by omega)
    refine seq (seq (region (oM hH8 rfl rfl (oM hH8 rfl rfl ?_))))
    refine ops_y hH8 rfl rfl (yv_lss rfl rfl) ?_
    refine ops_nil (thn_n ?_)
    by_cases hc9 : (j : Int) < (i : Int)
    ·skip
     refine cond_t rfl (dT hc9) ?_
     refine skip (thn_n (seq (block (seq ?_))))
     refine region_draw (fun w' => Heap [ow lo_3 hi_3 32 1 encW v_3 ((l.take i).map B.sm), base w] w') T.mixed (fun w10 hr11 => ?_)
     have hH12 := hH8.redrawn hr11
     refine any_takes [0, 1, 2, 3, 4, 5, 6] (by kernel_rfl) hH12 _ _ _ (by kernel_rfl) ?_
     refine qM rfl rfl rfl (qM rfl rfl rfl ?_)
     refine qs_y rfl rfl (yv_index T.sl39 rfl rfl (Heap.rdw T.el39_encW hH12 (n := 0) rfl).is (by omega)) ?_
     refine qs_y rfl rfl (yv_load T.one32 rfl (fun _ hw => Rd.at (Heap.rdw T.el39_encW hw (n := 0) rfl) (i := (j : Int)) (by omega) (j := 0) rfl)) ?_
     refine qM rfl rfl rfl ?_
     refine qs_y rfl rfl (yv_eql rfl rfl) ?_
     refine qM rfl rfl rfl (qs_nil ?_)
     by_cases hc13 : ((nth ((l.take i).map B.sm) (j : Int)).toNat : Int) = ((B.sm (nth l (i : Int))).toNat : Int)
     ·skip
      refine any_takes [7, 8, 9, 10, 11, 12, 13, 14, 15, 16] (by kernel_rfl) hH12 _ _ _ (by kernel_rfl) ?_
      refine qW rfl rfl rfl (dT hc13) rfl rfl ?_
      refine qW rfl rfl rfl (dT hc13) rfl rfl ?_
      refine qs_yes rfl rfl rfl (dT hc13) rfl (yv_index T.sl56 rfl rfl (h0.now hH12 (n := 1) rfl).is (by omega)) ?_
      refine qs_yes rfl rfl rfl (dT hc13) rfl (yv_load T.one9 rfl (fun _ hw => Rd.at (h0.now hw (n := 1) rfl) (i := (j : Int)) (by omega) (j := 0) rfl)) ?_
      refine qW rfl rfl rfl (dT hc13) rfl rfl ?_
      refine qW rfl rfl rfl (dT hc13) rfl rfl ?_
      refine qs_yes rfl rfl rfl (dT hc13) rfl (yv_index T.sl56 rfl rfl (h0.now hH12 (n := 1) rfl).is (by omega)) ?_
      refine qs_yes rfl rfl rfl (dT hc13) rfl (yv_load T.one9 rfl (fun _ hw => Rd.at (h0.now hw (n := 1) rfl) (i := (i : Int)) (by omega) (j := 0) rfl)) ?_
      refine qs_yes rfl rfl rfl (dT hc13) rfl (yv_neqS rfl rfl) ?_
      refine qs_y rfl rfl (yv_pick_t rfl (dT hc13) rfl) ?_
      refine qs_nil ?_
      refine any_done (by kernel_rfl) ?_
      refine thn_n ?_
      by_cases hc14 : (nth l (j : Int)) = (nth l (i : Int))
      ·skip
       refine cond_f rfl (not_decide_n hc14) ?_
       refine skip (blk_n (thn_n ?_))
       have hno : ¬ (B.sm (nth l (j : Int)) = B.sm (nth l (i : Int)) ∧ ¬ nth l (j : Int) = nth l (i : Int)) := by rw [← hnm (by omega)]; first | exact fun h => h.2 ‹_› | exact fun h => word_ne ‹_› h.1
       refine region (oM hH12 rfl rfl ?_)
       refine ops_y hH12 rfl rfl (yv_add rfl rfl (by omega)) ?_
       refine oA hH12 rfl rfl (ops_nil ?_)
       refine lp_n (j + 1) (uC rfl (uC rfl (uC rfl (uC rfl (uC rfl (Sub.nil _)))))) ?_ ?_
       ·exact ⟨hH12, by omega, B.all_snoc hal2 hno⟩
       ·first | (dsimp only; omega) | (show _ < _; omega)
      ·skip
       refine cond_t rfl (not_decide_t hc14) ?_
       refine seq ?_
       have hnj := hnm (by omega)
       have hco : B.coll l := ⟨i, by omega, j, by omega, by rw [← hnj]; exact word_eq ‹_›, ‹_›⟩
       refine region (oA hH12 rfl rfl (ops_nil (thn_n (ret (blk_r (thn_r (lp_r (blk_r (thn_r ?_)))))))))
       refine blk_r (thn_r (lp_r (blk_r (thn_r ?_))))
       have hH15 := (hH12.sub (sC sR))
       refine fin hH15 (fun w' hf => (res1 rfl (show RV _ _ _ (.tmp 2) _ from rfl))) (fun w' hf => ?_)
       first | exact congrArg Value.bool (dT hco).symm | exact congrArg Value.bool (dF hnc).symm
     ·skip
      refine any_takes [7, 8, 9, 10, 11, 12, 13, 14, 15, 16] (by kernel_rfl) hH12 _ _ _ (by kernel_rfl) ?_
      refine qs_no rfl rfl rfl (dF hc13) rfl ?_
      refine qs_no rfl rfl rfl (dF hc13) rfl ?_
      refine qs_no rfl rfl rfl (dF hc13) rfl ?_
      refine qs_no rfl rfl rfl (dF hc13) rfl ?_
      refine qs_no rfl rfl rfl (dF hc13) rfl ?_
      refine qs_no rfl rfl rfl (dF hc13) rfl ?_
      refine qs_no rfl rfl rfl (dF hc13) rfl ?_
      refine qs_no rfl rfl rfl (dF hc13) rfl ?_
      refine qs_no rfl rfl rfl (dF hc13) rfl ?_
      refine qs_y rfl rfl (yv_pick_f rfl (dF hc13) rfl) ?_
      refine qs_nil ?_
      refine any_done (by kernel_rfl) ?_
      refine thn_n ?_
      refine cond_f rfl rfl ?_
      refine skip (blk_n (thn_n ?_))
      have hno : ¬ (B.sm (nth l (j : Int)) = B.sm (nth l (i : Int)) ∧ ¬ nth l (j : Int) = nth l (i : Int)) := by rw [← hnm (by omega)]; first | exact fun h => h.2 ‹_› | exact fun h => word_ne ‹_› h.1
      refine region (oM hH12 rfl rfl ?_)
      refine ops_y hH12 rfl rfl (yv_add rfl rfl (by omega)) ?_
      refine oA hH12 rfl rfl (ops_nil ?_)
      refine lp_n (j + 1) (uC rfl (uC rfl (uC rfl (uC rfl (uC rfl (Sub.nil _)))))) ?_ ?_
      ·exact ⟨hH12, by omega, B.all_snoc hal2 hno⟩
      ·first | (dsimp only; omega) | (show _ < _; omega)
    ·skip
     refine cond_f rfl (dF hc9) ?_
     refine exit (thn_x (lp_x (blk_here (thn_n (region (oM hH8 rfl rfl (oM hH8 rfl rfl ?_)))))))
     refine op_lit (us := [(0, (.int .u64 ((B.sm (nth l (i : Int))).toNat : Int)))]) T.el39_encW [B.sm (nth l (i : Int))] rfl (by decide) rfl (fun a ha => by simp [ha.ev (show ev _ (.tmp 41) = some _ from rfl)]) (fun w => by kernel_rfl) hH8 (fun u16 lo18 hi19 w17 hH20 => ?_)
     refine op_append (n := 1) T.el39_encW rfl rfl rfl hH20 rfl (Heap.rdw T.el39_encW hH20 (n := 0) rfl) (by first | omega | (simp only [List.length_append, List.length_cons, List.length_nil]; omega)) (fun u21 lo23 hi24 w22 hH25 => ?_)
     refine oA hH25 rfl rfl (ops_nil (blk_n (thn_n (region (oM hH25 rfl rfl ?_)))))
     refine ops_y hH25 rfl rfl (yv_add rfl rfl (by omega)) ?_
     refine oA hH25 rfl rfl (ops_nil ?_)
     have hH26 := (hH25.sub (sC sR))
     refine lp_n (i + 1, u21, lo23, hi24) (uC rfl (uC rfl (uC rfl (Sub.nil _)))) ?_ ?_
     ·exact ⟨(Heap.recast (n := 0) hH26 rfl (B.map_sm_succ (by omega))), by omega, B.all_snoc hall (fun j2 hj2 => hal2 j2 (by omega))⟩
     ·first | (dsimp only; omega) | (show _ < _; omega)
  ·skip
   refine cond_f rfl (dF hc4) ?_
   refine exit (thn_x (lp_x (blk_here (thn_n (seq ?_)))))
   have hnc : ¬ B.coll l := fun h => by obtain ⟨i2, h1, j2, h2, h3, h4⟩ := h; exact hall i2 (by omega) j2 h2 ⟨h3, h4⟩
   refine region (oA hH3 rfl rfl (ops_nil (thn_n (ret ?_))))
   have hH27 := (hH3.sub (sC sR))
   refine fin hH27 (fun w' hf => (res1 rfl (show RV _ _ _ (.tmp 2) _ from rfl))) (fun w' hf => ?_)
   first | exact congrArg Value.bool (dT hco).symm | exact congrArg Value.bool (dF hnc).symm
theorem B.strs_len1 : ∀ (n : Nat) (l : List En), l.length = n → 1 ≤ n → (B.strs l).length + 1 ≤ 2 * n := by
 intro n
 induction n using Nat.strongRecOn with
 | _ n ih =>
  intro l hl hn
  by_cases h1 : n = 1
  ·rw [B.strs_one (by omega)]; simp; omega
  ·have hh := B.half_lt (n := n) (by omega)
   rw [B.strs_two (by omega), hl]
   have e1 := ih (B.half n) (by omega) (l.take (B.half n)) (by rw [List.length_take]; omega) (by omega)
   have e2 := ih (n - B.half n) (by omega) (l.drop (B.half n)) (by rw [List.length_drop]; omega) (by omega)
   simp only [List.length_append, List.length_cons, List.length_nil]
   omega
theorem B.strs_len (n : Nat) (l : List En) (hl : l.length = n) : (B.strs l).length ≤ 2 * n + 1 := by
 by_cases h0 : n = 0
 ·rw [B.strs_nil (by omega)]; simp
 ·have := B.strs_len1 n l hl (by omega); omega
theorem B.strs_each : ∀ (n : Nat) (l : List En), l.length = n → B.InR l → ∀ x ∈ B.strs l, x.length ≤ 1000 := by
 intro n
 induction n using Nat.strongRecOn with
 | _ n ih =>
  intro l hl hin x hx
  by_cases h0 : n = 0
  ·rw [B.strs_nil (by omega)] at hx; rw [List.mem_singleton] at hx; subst hx; simp
  by_cases h1 : n = 1
  ·rw [B.strs_one (by omega)] at hx; rw [List.mem_singleton] at hx; subst hx
   have := B.leaf_len (B.text_len (hin 0 (by omega)))
   exact Nat.le_trans this (by decide)
  ·have hh := B.half_lt (n := n) (by omega)
   rw [B.strs_two (by omega), hl] at hx
   rcases List.mem_append.1 hx with hx | hx
   ·rcases List.mem_append.1 hx with hx | hx
    ·exact ih (B.half n) (by omega) _ (by rw [List.length_take]; omega) (B.inR_take hin _) x hx
    ·exact ih (n - B.half n) (by omega) _ (by rw [List.length_drop]; omega) (B.inR_drop hin _) x hx
   ·rw [List.mem_singleton] at hx; subst hx; rw [B.both_len]; omega
theorem c48r {v : Value} {l : List En} {w : World} (h0 : Rd encE 5 v l w) (hn : l.length ≤ 64) (hin : B.InR l) (ih : ∀ {v1 : Value} {l1 : List En} {w1 : World}, Rd encE 5 v1 l1 w1 → l1.length < l.length → l1.length ≤ 64 → B.InR l1 → Fn Tryz.prog 48 #[v1] w1 (fun u w => Own 9 1 encT u (B.strs l1) w))  :
  Fn Tryz.prog 48 [v].toArray w (fun u w => Own 9 1 encT u (B.strs l) w) := by
 refine fn_of' (args := [v]) Tryz.func48 rfl (ent Tryz.func48 (by kernel_rfl) rfl) rfl rfl (fun hH => ?_)
 refine seq (region (oA hH rfl rfl (ops_nil (thn_n (seq (seq (region (oM hH rfl rfl ?_))))))))
 refine ops_y hH rfl rfl (yv_len T.sl22 rfl (h0.now hH (n := 0) rfl).is) ?_
 refine ops_y hH rfl rfl (yv_eql rfl rfl) ?_
 refine ops_nil (thn_n ?_)
 by_cases hc1 : (l.length : Int) = 0
 ·skip
  refine cond_t rfl (dT hc1) ?_
  refine seq (region ?_)
  refine op_lit (us := [(0, (str ([] : List UInt8)))]) T.el56_encT [([] : List UInt8)] rfl (by decide) rfl (fun a ha => by simp [ha.ev (show ev _ (.const (str ([] : List UInt8))) = some _ from rfl)] <;> rfl) (fun w => by kernel_rfl) hH (fun u2 lo4 hi5 w3 hH6 => ?_)
  refine oA hH6 rfl rfl (ops_nil (thn_n (ret (thn_r ?_))))
  refine fin (hH6.front (n := 1) rfl) (fun w' hf => (res1 rfl (show RV _ _ _ (.tmp 2) _ from rfl))) (fun w' hf => ?_)
  first | (rw [B.strs_nil (by omega)]; exact Heap.own hf (n := 0) rfl) | (rw [B.strs_one (by omega)]; exact Heap.own hf (n := 0) rfl) | (rw [B.strs_two (by omega)]; exact Heap.own hf (n := 0) rfl)
 ·skip
  refine cond_f rfl (dF hc1) ?_
  refine skip (thn_n (seq (seq ?_)))
  have hne : ¬ l.length = 0 := by omega
  refine region (oM hH rfl rfl ?_)
  refine ops_y hH rfl rfl (yv_len T.sl22 rfl (h0.now hH (n := 0) rfl).is) ?_
  refine ops_y hH rfl rfl (yv_eql rfl rfl) ?_
  refine ops_nil (thn_n ?_)
  by_cases hc7 : (l.length : Int) = 1
  ·skip
   refine cond_t rfl (dT hc7) ?_
   refine seq ?_
   have hl1 : l.length = 1 := by omega
   have he0 := hin 0 (by omega)
   refine region (oM hH rfl rfl ?_)
   refine ops_y hH rfl rfl (yv_index T.sl22 rfl rfl (h0.now hH (n := 0) rfl).is (by omega)) ?_
   refine ops_y hH rfl rfl (yv_loadA (cs := [(.int .i64 ((nth l 0).n)), (.int .i64 ((nth l 0).d)), (.int .i64 ((nth l 0).f)), (.int .i64 ((nth l 0).t)), (.int .i64 ((nth l 0).a))]) T.agg38 rfl rfl (fun _ hw => Rd.atA (h0.now hw (n := 0) rfl) (i := 0) (by omega))) ?_
   refine op_fnV rfl rfl rfl hH (c95 (e := (nth l 0)) he0) (fun w8 hH9 => ?_)
   refine op_lit (us := [(0, (str (B.leaf (nth l 0))))]) T.el56_encT [(B.leaf (nth l 0))] rfl (by decide) rfl (fun a ha => by simp [ha.ev (show ev _ (.tmp 15) = some _ from rfl)] <;> rfl) (fun w => by kernel_rfl) hH9 (fun u10 lo12 hi13 w11 hH14 => ?_)
   refine oA hH14 rfl rfl (ops_nil (thn_n (ret (thn_r ?_))))
   refine fin (hH14.front (n := 1) rfl) (fun w' hf => (res1 rfl (show RV _ _ _ (.tmp 2) _ from rfl))) (fun w' hf => ?_)
   first | (rw [B.strs_nil (by omega)]; exact Heap.own hf (n := 0) rfl) | (rw [B.strs_one (by omega)]; exact Heap.own hf (n := 0) rfl) | (rw [B.strs_two (by omega)]; exact Heap.own hf (n := 0) rfl)
  ·skip
   refine cond_f rfl (dF hc7) ?_
   refine skip (thn_n (seq ?_))
   have hl2 : 2 ≤ l.length := by omega
   have hbh := B.half_lt hl2
   refine region (oM hH rfl rfl ?_)
   refine ops_y hH rfl rfl (yv_len T.sl22 rfl (h0.now hH (n := 0) rfl).is) ?_
   refine op_fnV rfl rfl rfl hH (c96 (by omega)) (fun w15 hH16 => ?_)
   refine oA hH16 rfl rfl (ops_nil (thn_n (seq ?_)))
   have hsl := B.strs_len _ (l.take (B.half l.length : Int).toNat) rfl
   have hsd := B.strs_len _ (l.drop (B.half l.length : Int).toNat) rfl
   have htk : (l.take (B.half l.length : Int).toNat).length ≤ 64 := by rw [List.length_take]; omega
   have htd : (l.drop (B.half l.length : Int).toNat).length ≤ 64 := by rw [List.length_drop]; omega
   refine region_drawY (fun w' => Heap [base w] w') [8] T.mixed (fun w17 hr18 => ?_)
   have hH19 := hH16.redrawn hr18
   refine any_takesT [0, 1, 2, 4, 5, 6] (by kernel_rfl)  _ _ _ (by kernel_rfl) ?_
   refine qM rfl rfl rfl (qM rfl rfl rfl ?_)
   refine qs_y rfl rfl (yv_cut_hi T.sl22 rfl rfl (h0.now hH19 (n := 0) rfl).is (by omega)) ?_
   refine qM rfl rfl rfl (qM rfl rfl rfl ?_)
   refine qs_y rfl rfl (yv_cut_lo T.sl22 rfl rfl (h0.now hH19 (n := 0) rfl).is (by omega)) ?_
   refine qs_nil ?_
   refine any_allY [3] (by kernel_rfl) rfl ?_
   refine ⟨⟨_, rfl, ?_⟩, trivial⟩
   ·skip
    refine op_fn rfl rfl rfl hH19 (ih (Rd.upto (h0.now hH19 (n := 0) rfl) (hi := (B.half l.length : Int).toNat) (by omega)) (by first | (rw [List.length_take]; omega) | (rw [List.length_drop]; omega)) (by first | (rw [List.length_take]; omega) | (rw [List.length_drop]; omega)) (by first | exact B.inR_take hin _ | exact B.inR_drop hin _)) (fun u22 w20 lo23 hi24 hH21 hv25 => ?_)
    have hH26 := Heap.toOw hH21 (n := 0) rfl
    refine ops_nil ?_
    refine ⟨fun _ _ => (hH26.sub (sC sR)), ?_⟩
    refine any_allY [7] (by kernel_rfl) rfl ?_
    refine ⟨⟨_, rfl, ?_⟩, trivial⟩
    ·skip
     refine op_fn rfl rfl rfl hH26 (ih (Rd.from (h0.now hH26 (n := 1) rfl) (lo := (B.half l.length : Int).toNat) (by omega)) (by first | (rw [List.length_take]; omega) | (rw [List.length_drop]; omega)) (by first | (rw [List.length_take]; omega) | (rw [List.length_drop]; omega)) (by first | exact B.inR_take hin _ | exact B.inR_drop hin _)) (fun u29 w27 lo30 hi31 hH28 hv32 => ?_)
     have hH33 := Heap.toOw hH28 (n := 0) rfl
     refine ops_nil ?_
     refine ⟨fun _ _ => (hH33.sub (sC (sC sR))), ?_⟩
     refine any_allY [8] (by kernel_rfl) rfl ?_
     refine ⟨⟨_, rfl, ?_⟩, trivial⟩
     ·skip
      refine op_append (n := 1) T.el56_encT rfl rfl rfl hH33 rfl (Heap.rdw T.el56_encT hH33 (n := 0) rfl) (by first | omega | (simp only [List.length_append, List.length_cons, List.length_nil]; omega)) (fun u34 lo36 hi37 w35 hH38 => ?_)
      refine ops_nil ?_
      refine ⟨(fun h => by cases h), ?_⟩
      refine any_takesT [9] (by kernel_rfl)  _ _ _ (by kernel_rfl) ?_
      refine qs_y rfl rfl (yv_assign rfl) (qs_nil ?_)
      refine any_doneY (by kernel_rfl) ?_
      refine thn_n (seq ?_)
      refine region_drawY (fun w' => Heap [base w] w') [11] T.mixed (fun w39 hr40 => ?_)
      have hH41 := hH38.redrawn hr40
      refine any_takesT [0, 1, 2, 3, 5, 6, 7] (by kernel_rfl)  _ _ _ (by kernel_rfl) ?_
      refine qM rfl rfl rfl (qM rfl rfl rfl (qM rfl rfl rfl ?_))
      refine qs_y rfl rfl (yv_cut_hi T.sl22 rfl rfl (h0.now hH41 (n := 2) rfl).is (by omega)) ?_
      refine qM rfl rfl rfl (qM rfl rfl rfl ?_)
      refine qs_y rfl rfl (yv_cut_lo T.sl22 rfl rfl (h0.now hH41 (n := 2) rfl).is (by omega)) ?_
      refine qs_nil ?_
      refine any_allY [4] (by kernel_rfl) rfl ?_
      refine ⟨⟨_, rfl, ?_⟩, trivial⟩
      ·skip
       refine op_fnV rfl rfl rfl hH41 (c44 (Rd.upto (h0.now hH41 (n := 2) rfl) (hi := (B.half l.length : Int).toNat) (by omega)) (by first | (rw [List.length_take]; omega) | (rw [List.length_drop]; omega)) (by first | exact B.inR_take hin _ | exact B.inR_drop hin _)) (fun w42 hH43 => ?_)
       refine ops_nil ?_
       refine ⟨fun _ _ => (hH43.sub (sC (sC sR))), ?_⟩
       refine any_allY [8] (by kernel_rfl) rfl ?_
       refine ⟨⟨_, rfl, ?_⟩, trivial⟩
       ·skip
        refine op_fnV rfl rfl rfl hH43 (c44 (Rd.from (h0.now hH43 (n := 2) rfl) (lo := (B.half l.length : Int).toNat) (by omega)) (by first | (rw [List.length_take]; omega) | (rw [List.length_drop]; omega)) (by first | exact B.inR_take hin _ | exact B.inR_drop hin _)) (fun w44 hH45 => ?_)
        refine ops_nil ?_
        refine ⟨fun _ _ => (hH45.sub (sC (sC sR))), ?_⟩
        refine any_allY [9] (by kernel_rfl) rfl ?_
        refine ⟨⟨_, rfl, ?_⟩, trivial⟩
        ·skip
         refine op_fnV rfl rfl rfl hH45 (c97 ) (fun w46 hH47 => ?_)
         refine ops_nil ?_
         refine ⟨fun _ _ => (hH47.sub (sC (sC sR))), ?_⟩
         refine any_allY [10] (by kernel_rfl) rfl ?_
         refine ⟨⟨_, rfl, ?_⟩, trivial⟩
         ·skip
          refine op_lit (us := [(0, (str (B.both (B.root (l.take (B.half l.length : Int).toNat)) (B.root (l.drop (B.half l.length : Int).toNat)))))]) T.el56_encT [(B.both (B.root (l.take (B.half l.length : Int).toNat)) (B.root (l.drop (B.half l.length : Int).toNat)))] rfl (by decide) rfl (fun a ha => by simp [ha.ev (show ev _ (.tmp 38) = some _ from rfl)] <;> rfl) (fun w => by kernel_rfl) hH47 (fun u48 lo50 hi51 w49 hH52 => ?_)
          refine ops_nil ?_
          refine ⟨fun _ _ => (hH52.sub (sC (sC (sC sR)))), ?_⟩
          refine any_allY [11] (by kernel_rfl) rfl ?_
          refine ⟨⟨_, rfl, ?_⟩, trivial⟩
          ·skip
           refine op_append (n := 2) T.el56_encT rfl rfl rfl hH52 rfl (Heap.rdw T.el56_encT hH52 (n := 0) rfl) (by first | omega | (simp only [List.length_append, List.length_cons, List.length_nil]; omega)) (fun u53 lo55 hi56 w54 hH57 => ?_)
           refine ops_nil ?_
           refine ⟨(fun h => by cases h), ?_⟩
           refine any_takesT [12] (by kernel_rfl)  _ _ _ (by kernel_rfl) ?_
           refine qs_y rfl rfl (yv_assign rfl) (qs_nil ?_)
           refine any_doneY (by kernel_rfl) ?_
           refine thn_n (ret ?_)
           have hH58 := (hH57.sub (sC (sC sR)))
           refine fin (hH58.front (n := 1) rfl) (fun w' hf => (res1 rfl (show RV _ _ _ (.tmp 2) _ from rfl))) (fun w' hf => ?_)
           first | (rw [B.strs_nil (by omega)]; exact Heap.own hf (n := 0) rfl) | (rw [B.strs_one (by omega)]; exact Heap.own hf (n := 0) rfl) | (rw [B.strs_two (by omega)]; exact Heap.own hf (n := 0) rfl)
theorem c48 {v : Value} {l : List En} {w : World} (h0 : Rd encE 5 v l w) (hn : l.length ≤ 64) (hin : B.InR l) : Fn Tryz.prog 48 #[v] w (fun u w => Own 9 1 encT u (B.strs l) w) := by
 induction hl : l.length using Nat.strongRecOn generalizing v l w with
 | _ n ih =>
  subst hl
  exact c48r h0 hn hin (fun k1 k2 k3 k4 => ih _ k2 k1 k3 k4 rfl)
end Go.Fip
namespace Go.Fip.B
open Go.Fip
theorem inR_mem {l : List En} (h : InR l) : ∀ e ∈ l, isEn e := fun e he => by
  obtain ⟨i, hi, rfl⟩ := List.getElem_of_mem he
  have := h i hi
  rwa [nth_nat hi] at this
end Go.Fip.B
namespace Go.Fip.B
open Go.Fip
theorem sp_none {c : UInt8} : ∀ {x : List UInt8}, (∀ b ∈ x, ¬ b = c) → sp c x = [x]
  | [], _ => rfl
  | b :: x, h => by
    have ih := sp_none (c := c) (x := x) (fun d hd => h d (List.mem_cons_of_mem _ hd))
    unfold sp
    rw [if_neg (h b (List.mem_cons_self ..)), ih]; rfl
theorem sp_part {c : UInt8} {y : List UInt8} : ∀ {x : List UInt8}, (∀ b ∈ x, ¬ b = c) → sp c (x ++ c :: y) = x :: sp c y
  | [], _ => by
    show sp c (c :: y) = _
    conv => lhs; unfold sp
    rw [if_pos rfl]
  | b :: x, h => by
    have ih := sp_part (c := c) (y := y) (x := x) (fun d hd => h d (List.mem_cons_of_mem _ hd))
    show sp c (b :: (x ++ c :: y)) = _
    conv => lhs; unfold sp
    rw [if_neg (h b (List.mem_cons_self ..)), ih]; rfl
theorem dig_len_lt : ∀ (k n : Nat), 1 ≤ k → k ≤ 20 → n < 10 ^ k → (dig n).length ≤ k
  | 0, n, h, _, _ => by omega
  | k + 1, n, _, hk, hn => by
    by_cases h9 : n < 10
    · rw [dig_small h9]; simp
    · have h20 : n < 10 ^ 20 := Nat.lt_of_lt_of_le hn (Nat.pow_le_pow_right (by decide) hk)
      have hk1 : 1 ≤ k := by
        rcases Nat.eq_zero_or_pos k with h0 | h0
        · subst h0; omega
        · exact h0
      have ih := dig_len_lt k (n / 10) hk1 (by omega) (by rw [Nat.div_lt_iff_lt_mul (by decide)]; rw [Nat.pow_succ] at hn; exact hn)
      rw [dig_rec (by omega) h20, List.length_append]
      simp only [List.length_cons, List.length_nil]
      omega
theorem dig_hasnt {n : Nat} (h : n < 10 ^ 20) {c : UInt8} (hc : ¬ isD c) : ∀ b ∈ dig n, ¬ b = c := fun b hb e => hc (e ▸ (dig_dec h).2.1 b hb)
theorem n20 {e : En} (h : isEn e) : e.n.toNat < 10 ^ 13 ∧ e.d.toNat < 10 ^ 5 ∧ e.f.toNat < 10 ^ 1 ∧ e.t.toNat < 10 ^ 1 ∧ e.a.toNat < 10 ^ 7 := by
  unfold isEn at h
  have h1 : (10 : Nat) ^ 13 = 10000000000000 := by decide
  have h2 : (10 : Nat) ^ 5 = 100000 := by decide
  have h3 : (10 : Nat) ^ 1 = 10 := by decide
  have h4 : (10 : Nat) ^ 7 = 10000000 := by decide
  omega
theorem to20 {n k : Nat} (h : n < 10 ^ k) (hk : k ≤ 20) : n < 10 ^ 20 := Nat.lt_of_lt_of_le h (Nat.pow_le_pow_right (by decide) hk)
def fieldsE (e : En) : List (List UInt8) := [dig e.n.toNat, dig e.d.toNat, dig e.f.toNat, dig e.t.toNat, dig e.a.toNat]
theorem text31 {e : En} (h : isEn e) : (text e).length ≤ 31 := by
  obtain ⟨h1, h2, h3, h4, h5⟩ := n20 h
  have a1 := dig_len_lt 13 _ (by decide) (by decide) h1
  have a2 := dig_len_lt 5 _ (by decide) (by decide) h2
  have a3 := dig_len_lt 1 _ (by decide) (by decide) h3
  have a4 := dig_len_lt 1 _ (by decide) (by decide) h4
  have a5 := dig_len_lt 7 _ (by decide) (by decide) h5
  unfold text
  simp only [List.length_append, List.length_cons, List.length_nil]
  omega
theorem sp_text {e : En} (h : isEn e) : sp 32 (text e) = fieldsE e := by
  obtain ⟨h1, h2, h3, h4, h5⟩ := n20 h
  have hd : ¬ isD 32 := by decide
  have e1 : text e = dig e.n.toNat ++ 32 :: (dig e.d.toNat ++ 32 :: (dig e.f.toNat ++ 32 :: (dig e.t.toNat ++ 32 :: dig e.a.toNat))) := by unfold text; simp
  rw [e1, sp_part (dig_hasnt (to20 h1 (by decide)) hd), sp_part (dig_hasnt (to20 h2 (by decide)) hd), sp_part (dig_hasnt (to20 h3 (by decide)) hd), sp_part (dig_hasnt (to20 h4 (by decide)) hd), sp_none (dig_hasnt (to20 h5 (by decide)) hd)]
  rfl
theorem num_dig {n k : Nat} (h : n < 10 ^ k) (h1 : 1 ≤ k) (hk : k ≤ 18) : Num (dig n) := ⟨dig_dec (to20 h (by omega)), Nat.le_trans (dig_len_lt k n h1 (by omega) h) hk⟩
theorem entR_text {e : En} (h : isEn e) : entR (text e) = (e, true) := by
  obtain ⟨h1, h2, h3, h4, h5⟩ := n20 h
  have hi : IsEnt (sp 32 (text e)) := by
    rw [sp_text h]
    refine ⟨rfl, fun p hp => ?_⟩
    simp only [fieldsE, List.mem_cons, List.not_mem_nil, or_false] at hp
    rcases hp with rfl | rfl | rfl | rfl | rfl
    · exact num_dig h1 (by decide) (by decide)
    · exact num_dig h2 (by decide) (by decide)
    · exact num_dig h3 (by decide) (by decide)
    · exact num_dig h4 (by decide) (by decide)
    · exact num_dig h5 (by decide) (by decide)
  rw [entR_t hi, sp_text h]
  have hv : ∀ {n k : Nat}, n < 10 ^ k → k ≤ 20 → valI (dig n) = (n : Int) := fun hn hk => by unfold valI; rw [dig_val (to20 hn hk)]
  have e2 : enL ((fieldsE e).map valI) = e := by
    show (⟨valI (dig e.n.toNat), valI (dig e.d.toNat), valI (dig e.f.toNat), valI (dig e.t.toNat), valI (dig e.a.toNat)⟩ : En) = e
    rw [hv h1 (by decide), hv h2 (by decide), hv h3 (by decide), hv h4 (by decide), hv h5 (by decide)]
    unfold isEn at h
    cases e
    simp only [En.mk.injEq]
    simp only at h
    omega
  rw [e2]
theorem text_no {e : En} (h : isEn e) : ∀ b ∈ text e, ¬ b = 10 := fun b hb c => by
  subst c
  obtain ⟨h1, h2, h3, h4, h5⟩ := n20 h
  have hd : ¬ isD 10 := by decide
  unfold text at hb
  simp only [List.mem_append, List.mem_cons, List.not_mem_nil, or_false] at hb
  rcases hb with (((((((hb | hb) | hb) | hb) | hb) | hb) | hb) | hb) | hb
  · exact dig_hasnt (to20 h1 (by decide)) hd _ hb rfl
  · exact absurd hb (by decide)
  · exact dig_hasnt (to20 h2 (by decide)) hd _ hb rfl
  · exact absurd hb (by decide)
  · exact dig_hasnt (to20 h3 (by decide)) hd _ hb rfl
  · exact absurd hb (by decide)
  · exact dig_hasnt (to20 h4 (by decide)) hd _ hb rfl
  · exact absurd hb (by decide)
  · exact dig_hasnt (to20 h5 (by decide)) hd _ hb rfl
theorem sp_lns {t : List UInt8} : ∀ {l : List En}, (∀ e ∈ l, isEn e) → sp 10 (lns l ++ t) = l.map text ++ sp 10 t
  | [], _ => rfl
  | e :: l, h => by
    have ih := sp_lns (t := t) (l := l) (fun x hx => h x (List.mem_cons_of_mem _ hx))
    have e1 : lns (e :: l) ++ t = text e ++ 10 :: (lns l ++ t) := by unfold lns; simp
    rw [e1, sp_part (text_no (h e (List.mem_cons_self ..))), ih]; rfl
theorem hex_H (x : UInt64) : ∀ b ∈ hex x, isH b := by
  have key : ∀ (k n : Nat), ∀ b ∈ hexN k n, isH b := by
    intro k
    induction k with
    | zero => intro n b hb; simp [hexN] at hb
    | succ k ih =>
      intro n b hb
      rcases List.mem_append.1 hb with hb | hb
      · exact ih _ b hb
      · rw [List.mem_singleton] at hb
        subst hb
        unfold isH
        rw [hd_val]
        split <;> omega
  exact key 16 _
theorem sum_no (x : UInt64) : ∀ b ∈ sumw ++ hex x, ¬ b = 10 := fun b hb c => by
  subst c
  rcases List.mem_append.1 hb with hb | hb
  · exact absurd hb (by decide)
  · exact absurd (hex_H x _ hb) (by decide)
theorem hx_sum (x : UInt64) : Hx (sumw ++ hex x) := by
  refine ⟨by rw [List.length_append, hex_length]; rfl, ?_, ?_⟩
  · rw [List.take_append_of_le_length (by decide)]; rfl
  · intro b hb
    rw [List.drop_append_of_le_length (by decide)] at hb
    have : b ∈ hex x := by simpa [sumw] using hb
    exact hex_H x b this
theorem file_len {l : List En} (h : ck l = 0) : (fileT l).length ≤ 1000 := by
  obtain ⟨h24, hin, _⟩ := ck_iff.1 h
  have key : ∀ m : List En, (∀ e ∈ m, isEn e) → (lns m).length ≤ 32 * m.length := by
    intro m
    induction m with
    | nil => intro _; simp [lns]
    | cons e m ih =>
      intro hm
      have h1 := ih (fun x hx => hm x (List.mem_cons_of_mem _ hx))
      have h2 := text31 (hm e (List.mem_cons_self ..))
      have e1 : lns (e :: m) = (text e ++ [10]) ++ lns m := by unfold lns; simp
      rw [e1, List.length_append, List.length_append, List.length_cons]
      simp only [List.length_cons, List.length_nil]
      omega
  have h3 := key l (inR_mem hin)
  unfold fileT
  rw [List.length_append, List.length_append, List.length_append, hex_length]
  have h4 : sumw.length = 4 := rfl
  simp only [List.length_cons, List.length_nil]
  omega
end Go.Fip.B
namespace Go.Fip.B
open Go.Fip
def mixT (l : List En) (x : UInt64) : List UInt8 := lns l ++ (sumw ++ hex x ++ [10])
theorem mix_len {l : List En} {x : UInt64} : (mixT l x).length = (fileT l).length := by
  unfold mixT fileT
  simp only [List.length_append, hex_length]
theorem file_tail (l : List En) : (fileT l).length = (lns l).length + 21 := by
  unfold fileT
  have h4 : sumw.length = 4 := rfl
  simp only [List.length_append, hex_length, List.length_cons, List.length_nil]
  omega
theorem file_take {l : List En} {n : Nat} (h : n + 21 = (fileT l).length) : (fileT l).take n = lns l := by
  have := file_tail l
  unfold fileT
  exact List.take_left' (by omega)
theorem file_drop {l : List En} {n : Nat} (h : n + 21 = (fileT l).length) : (fileT l).drop n = sumw ++ hex (root l) ++ [10] := by
  have := file_tail l
  unfold fileT
  exact List.drop_left' (by omega)
theorem mix_of {l m : List En} {n k : Nat} (h : n + 21 = (fileT l).length) (h2 : k + 21 = (fileT m).length) : (fileT l).take n ++ (fileT m).drop k = mixT l (root m) := by
  rw [file_take h, file_drop h2]; rfl
theorem sp_mix {l : List En} {x : UInt64} (h : ∀ e ∈ l, isEn e) : sp 10 (mixT l x) = l.map text ++ [sumw ++ hex x, []] := by
  have e1 : sp 10 ((sumw ++ hex x) ++ 10 :: []) = [sumw ++ hex x, []] := (sp_part (sum_no x)).trans (by rw [show sp 10 [] = [[]] from rfl])
  exact (sp_lns h).trans (congrArg (fun z => l.map text ++ z) e1)
theorem load_mix {l : List En} {x : UInt64} (h : ck l = 0) : loadR (mixT l x) = if root l = x then (l, 0) else ([], 14) := by
  obtain ⟨h24, hin, _⟩ := ck_iff.1 h
  have hm := inR_mem hin
  have hps := sp_mix (x := x) hm
  have hlen : (l.map text ++ [sumw ++ hex x, []]).length = l.length + 2 := by simp
  have hat : ∀ i : Nat, i < l.length → nth (l.map text ++ [sumw ++ hex x, []]) (i : Int) = text (nth l (i : Int)) := fun i hi => by
    rw [nth_nat (by rw [hlen]; omega), nth_nat hi, List.getElem_append_left (by simpa using hi), List.getElem_map]
  have hsum : sumP (sp 10 (mixT l x)) = sumw ++ hex x := by
    rw [hps]; unfold sumP
    rw [hlen, show l.length + 2 - 2 = l.length by omega, nth_nat (by rw [hlen]; omega), List.getElem_append_right (by simp)]
    simp
  have hes : esOf (sp 10 (mixT l x)) = l := by
    rw [hps]; unfold esOf ents
    rw [hlen, show l.length + 2 - 2 = l.length by omega]
    have e1 : (l.map text ++ [sumw ++ hex x, []]).take l.length = l.map text := by
      rw [List.take_append_of_le_length (by simp), List.take_of_length_le (by simp)]
    rw [e1, List.map_map]
    conv => rhs; rw [← List.map_id l]
    exact List.map_congr_left fun e he => by show (entR (text e)).1 = e; rw [entR_text (hm e he)]
  have a1 : ¬ 1000 < (mixT l x).length := by rw [mix_len]; have := file_len h; omega
  have a2 : shaped (sp 10 (mixT l x)) := by
    rw [hps]
    refine ⟨by rw [hlen]; omega, ?_⟩
    rw [hlen, show l.length + 2 - 1 = l.length + 1 by omega, nth_nat (by rw [hlen]; omega), List.getElem_append_right (by simp)]
    simp
  have a3 : allE (sp 10 (mixT l x)) := by
    rw [hps]
    intro i hi
    rw [hlen] at hi
    rw [hat i (by omega), entR_text (hin i (by omega))]
  have a4 : Hx (sumP (sp 10 (mixT l x))) := by rw [hsum]; exact hx_sum _
  have a5 : ¬ ¬ ck (esOf (sp 10 (mixT l x))) = 0 := by rw [hes]; exact fun hn => hn h
  have a6 : hexV ((sumP (sp 10 (mixT l x))).drop 4) = (root (esOf (sp 10 (mixT l x)))).toNat ↔ root l = x := by
    rw [hsum, hes]
    have e1 : (sumw ++ hex x).drop 4 = hex x := by rw [List.drop_append_of_le_length (by decide)]; rfl
    rw [e1]
    have e2 : hexV (hex x) = x.toNat := (hexV_iff (hex_H _) (hex_length _)).2 rfl
    rw [e2]
    exact ⟨fun hh => (UInt64.toNat_inj.1 hh).symm, fun hh => by rw [hh]⟩
  unfold loadR
  rw [if_neg a1, if_neg (fun hn => hn a2), if_neg (fun hn => hn a3), if_neg (fun hn => hn a4), if_neg a5]
  by_cases hr : root l = x
  · rw [if_neg (fun hn => hn (a6.2 hr)), if_pos hr, hes]
  · rw [if_pos (fun hn => hr (a6.1 hn)), if_neg hr]
theorem changed_coll {l c : List En} (hl : ck l = 0) (hc : ck c = 0) (hn : c.length = l.length) (hr : root c = root l) (hne : ¬ c = l) : coll (strs l ++ strs c) := by
  refine Decidable.byContradiction fun h => hne ?_
  exact root_eq (inj_of h) l.length c l hn rfl (ck_iff.1 hc).2.1 (ck_iff.1 hl).2.1 (fun x hx => List.mem_append_right _ hx) (fun x hx => List.mem_append_left _ hx) hr
end Go.Fip.B
namespace Go.Fip
open Go.Proofs Go.RowKit
theorem B.cc_len {l c : List En} (hl : l.length ≤ 24) (hc : c.length ≤ 24) : (B.strs l ++ B.strs c).length ≤ 1000000 := by
 have h1 := B.strs_len l.length l rfl
 have h2 := B.strs_len c.length c rfl
 rw [List.length_append]; omega
theorem B.cc_each {l c : List En} (hl : B.InR l) (hc : B.InR c) : ∀ x ∈ B.strs l ++ B.strs c, x.length ≤ 1000 := fun x hx => by
 rcases List.mem_append.1 hx with hx | hx
 ·exact B.strs_each l.length l rfl hl x hx
 ·exact B.strs_each c.length c rfl hc x hx
theorem c15 {v : Value} {l : List En} {w : World} (h0 : Rd encE 5 v l w) (hG : Gl w) {a : Int} {e : En} (ha : 0 ≤ a ∧ a ≤ 255)  :
  Fn Tryz.prog 15 [(.agg #[v]), (.int .u8 a), (.agg #[(.int .i64 e.n), (.int .i64 e.d), (.int .i64 e.f), (.int .i64 e.t), (.int .i64 e.a)])].toArray w (fun u _ => u = .bool true) := by
 refine fn_of' (args := [(.agg #[v]), (.int .u8 a), (.agg #[(.int .i64 e.n), (.int .i64 e.d), (.int .i64 e.f), (.int .i64 e.t), (.int .i64 e.a)])]) Tryz.func15 rfl (ent Tryz.func15 (by kernel_rfl) rfl) rfl rfl (fun hH => ?_)
 refine seq (region ?_)
 refine op_box (us := [v]) rfl rfl rfl hH (fun b1 w2 hH3 => ?_)
 refine op_box (us := [(.int .i64 e.n), (.int .i64 e.d), (.int .i64 e.f), (.int .i64 e.t), (.int .i64 e.a)]) rfl rfl rfl hH3 (fun b4 w5 hH6 => ?_)
 refine oA hH6 rfl rfl (ops_nil (thn_n (seq (seq (region ?_)))))
 refine ops_y hH6 rfl rfl (yv_loadA (cs := [v]) T.agg24 rfl rfl (fun _ hw => Heap.cellsw hw (n := 1) rfl (k := 0) rfl)) ?_
 refine op_fnV rfl rfl rfl hH6 (c43 (h0.now hH6 (n := 2) rfl)) (fun w7 hH8 => ?_)
 refine ops_y hH8 rfl rfl (yv_not rfl) ?_
 refine oM hH8 rfl rfl ?_
 by_cases hc9 : B.ck l = 0
 ·skip
  refine guard_yes rfl rfl (not_decide_n hc9) ?_
  refine ops_y hH8 rfl rfl (yv_field T.f24_0 rfl) ?_
  refine guard_yes rfl rfl (not_decide_n hc9) ?_
  refine ops_y hH8 rfl rfl (yv_load T.one22 rfl (fun _ hw => Heap.cellw hw (n := 1) rfl rfl)) ?_
  refine guard_yes rfl rfl (not_decide_n hc9) ?_
  refine ops_y hH8 rfl rfl (yv_len T.sl22 rfl (h0.now hH8 (n := 2) rfl).is) ?_
  refine guard_yes rfl rfl (not_decide_n hc9) ?_
  refine ops_y hH8 rfl rfl (yv_eql rfl rfl) ?_
  refine ops_y hH8 rfl rfl (yv_pick_f rfl (not_decide_n hc9) rfl) ?_
  refine ops_nil (thn_n ?_)
  by_cases hc10 : (l.length : Int) = 0
  ·skip
   refine cond_t rfl (dT hc10) ?_
   refine seq (region ?_)
   refine op_fnV rfl rfl rfl hH8 (c18 (hG.now hH8 (n := 2) rfl)) (fun w11 hH12 => ?_)
   refine oA hH12 rfl rfl (ops_nil (thn_n (ret (thn_r ?_))))
   have hH13 := (hH12.sub (sC (sC sR)))
   refine fin hH13 (fun w' hf => (res1 rfl (show RV _ _ _ (.tmp 6) _ from rfl))) (fun w' hf => ?_)
   first | rfl | contradiction | (exfalso; omega) | exact absurd (B.changed_coll hc0 hcc hcl hrt ‹_›) ‹_›
  ·skip
   refine cond_f rfl (dF hc10) ?_
   refine skip (thn_n (seq ?_))
   have hc0 : B.ck l = 0 := by first | assumption | exact Decidable.not_not.1 ‹_›
   have hbk := B.ck_iff.1 hc0
   have hin0 := hbk.2.1
   have hl24 := hbk.1
   have hl1 : 1 ≤ l.length := by omega
   have hro := B.ro2 hc0
   obtain ⟨i, hi⟩ : ∃ i : Nat, (i : Int) = a % (l.length : Int) := ⟨(a % (l.length : Int)).toNat, Int.toNat_of_nonneg (Int.emod_nonneg _ (by omega))⟩
   have hil : i < l.length := by have := Int.emod_lt_of_pos a (show (0 : Int) < (l.length : Int) by omega); omega
   refine region (oM hH8 rfl rfl ?_)
   refine ops_y hH8 rfl rfl (yv_conv Tryz.underlying5 Tryz.underlying3 rfl (wrap_i64 (by omega))) ?_
   refine ops_y hH8 rfl rfl (yv_field T.f24_0 rfl) ?_
   refine ops_y hH8 rfl rfl (yv_load T.one22 rfl (fun _ hw => Heap.cellw hw (n := 1) rfl rfl)) ?_
   refine ops_y hH8 rfl rfl (yv_len T.sl22 rfl (h0.now hH8 (n := 2) rfl).is) ?_
   refine ops_y hH8 rfl rfl (yv_cast (show _ = (i : Int) from hi.symm) (yv_rem rfl rfl (by omega) (by omega))) ?_
   refine oA hH8 rfl rfl (ops_nil (thn_n (seq (region ?_))))
   refine op_lit (us := []) T.el22_encE ([] : List En) rfl (by decide) rfl (fun a ha => by simp) (fun w => by kernel_rfl) hH8 (fun u14 lo16 hi17 w15 hH18 => ?_)
   refine ops_y hH18 rfl rfl (yv_field T.f24_0 rfl) ?_
   refine ops_y hH18 rfl rfl (yv_load T.one22 rfl (fun _ hw => Heap.cellw hw (n := 2) rfl rfl)) ?_
   refine op_append (n := 0) T.el22_encE rfl rfl rfl hH18 rfl (h0.now hH18 (n := 3) rfl) (by first | omega | (simp only [List.length_append, List.length_cons, List.length_nil]; omega)) (fun u19 lo21 hi22 w20 hH23 => ?_)
   obtain ⟨_, _, hb24, _⟩ := (Heap.rdw T.el22_encE hH23 (n := 0) rfl).is
   refine ops_y hH23 rfl rfl (yv_build (v := (.agg #[u19])) (us := [(0, u19)]) (fun a ha => by simp [ha.ev (show ev _ (.tmp 31) = some _ from rfl)]) (fun w => by rw [hb24]; kernel_rfl)) ?_
   refine op_alloc (z := (.agg #[(.slice none 0 0)])) (us := [(.slice none 0 0)]) (fun _ => by kernel_rfl) rfl rfl hH23 (fun b25 w26 hH27 => ?_)
   refine op_store (n := 0) (j := 0) (us := [u19]) rfl rfl hH27 rfl T.sz24 rfl rfl rfl (all_one (SliceIs.one1 (Heap.rdw T.el22_encE hH27 (n := 1) rfl).is) rfl) (fun w28 hH29 => ?_)
   refine ops_nil (thn_n (seq ?_))
   have hal : (([] : List En) ++ l).length = l.length := rfl
   refine region ?_
   refine ops_y hH29 rfl rfl (yv_field T.f24_0 rfl) ?_
   refine ops_y hH29 rfl rfl (yv_load T.one22 rfl (fun _ hw => Heap.cellw hw (n := 0) rfl rfl)) ?_
   refine oM hH29 rfl rfl ?_
   refine ops_y hH29 rfl rfl (yv_loadA (cs := [(.int .i64 e.n), (.int .i64 e.d), (.int .i64 e.f), (.int .i64 e.t), (.int .i64 e.a)]) T.agg38 rfl rfl (fun _ hw => Heap.cellsw hw (n := 2) rfl (k := 0) rfl)) ?_
   refine ops_y hH29 rfl rfl (yv_index T.sl22 rfl rfl (Heap.rdw T.el22_encE hH29 (n := 1) rfl).is (by omega)) ?_
   refine op_setE (n := 1) (i := (i : Int)) (k := 0) (us := [(.int .i64 e.n), (.int .i64 e.d), (.int .i64 e.f), (.int .i64 e.t), (.int .i64 e.a)]) (z := e) T.el22_encE rfl rfl hH29 rfl (by omega) T.sz38 rfl rfl rfl (Nat.le_of_ble_eq_true rfl) (fun w30 hH31 => ?_)
   refine ops_nil (thn_n (seq ?_))
   have hcl : ((([] : List En) ++ l).set (i : Int).toNat e).length = l.length := by rw [List.length_set]; rfl
   refine region ?_
   refine ops_y hH31 rfl rfl (yv_loadA (cs := [v]) T.agg24 rfl rfl (fun _ hw => Heap.cellsw hw (n := 3) rfl (k := 0) rfl)) ?_
   refine op_fnV rfl rfl rfl hH31 ((by have h := c38  (h0.now hH31 (n := 4) rfl) (by omega) (hG.now hH31 (n := 4) rfl); simp only [B.fileR_ok hc0] at h; exact h)) (fun w32 hH33 => ?_)
   refine oM hH33 rfl rfl (ops_y hH33 rfl rfl (yv_extract rfl rfl) (ops_y hH33 rfl rfl (yv_extract rfl rfl) (oA hH33 rfl rfl (oA hH33 rfl rfl (ops_nil (thn_n (seq (seq (region ?_)))))))))
   refine oM hH33 rfl rfl ?_
   refine ops_y hH33 rfl rfl (yv_neq rfl rfl) ?_
   refine oM hH33 rfl rfl (guard_yes rfl rfl rfl (oM hH33 rfl rfl (guard_yes rfl rfl rfl ?_)))
   refine ops_y hH33 rfl rfl (yv_loadA (cs := [v]) T.agg24 rfl rfl (fun _ hw => Heap.cellsw hw (n := 3) rfl (k := 0) rfl)) ?_
   refine guard_yes rfl rfl rfl ?_
   refine op_fnV rfl rfl rfl hH33 (c51 (h0.now hH33 (n := 4) rfl) hl24 hin0) (fun w34 hH35 => ?_)
   refine guard_yes rfl rfl rfl ?_
   refine ops_y hH35 rfl rfl (yv_neqS rfl rfl) ?_
   refine ops_y hH35 rfl rfl (yv_pick_f rfl rfl rfl) ?_
   refine ops_nil (thn_n ?_)
   refine cond_f rfl (not_decide_n rfl) ?_
   refine skip (thn_n (seq (seq (region ?_))))
   refine ops_y hH35 rfl rfl (yv_loadA (cs := [u19]) T.agg24 rfl rfl (fun _ hw => Heap.cellsw hw (n := 0) rfl (k := 0) rfl)) ?_
   refine op_fnV rfl rfl rfl hH35 (c43 (Heap.rdw T.el22_encE hH35 (n := 1) rfl)) (fun w36 hH37 => ?_)
   refine ops_y hH37 rfl rfl (yv_not rfl) ?_
   refine ops_nil (thn_n ?_)
   by_cases hc38 : B.ck ((([] : List En) ++ l).set (i : Int).toNat e) = 0
   ·skip
    have hcc : B.ck ((([] : List En) ++ l).set (i : Int).toNat e) = 0 := by first | assumption | exact Decidable.not_not.1 ‹_›
    have hlc := (B.ck_iff.1 hcc).1
    have hic := (B.ck_iff.1 hcc).2.1
    have hft := B.file_tail l
    have hfc := B.file_tail ((([] : List En) ++ l).set (i : Int).toNat e)
    have hf1 := B.file_len hc0
    have hf2 := B.file_len hcc
    have hq1 : ((B.fileT ((([] : List En) ++ l).set (i : Int).toNat e)).take (((B.fileT ((([] : List En) ++ l).set (i : Int).toNat e)).length : Int) - 21).toNat).length ≤ 1000 := by rw [List.length_take]; omega
    have hq2 : ((B.fileT l).drop (((B.fileT l).length : Int) - 21).toNat).length ≤ 1000 := by rw [List.length_drop]; omega
    have hst1 := B.strs_len l.length l rfl
    have hst2 := B.strs_len _ ((([] : List En) ++ l).set (i : Int).toNat e) rfl
    refine cond_f rfl (not_decide_n hc38) ?_
    refine skip (thn_n (seq (region ?_)))
    refine ops_y hH37 rfl rfl (yv_loadA (cs := [u19]) T.agg24 rfl rfl (fun _ hw => Heap.cellsw hw (n := 0) rfl (k := 0) rfl)) ?_
    refine op_fnV rfl rfl rfl hH37 (c51 (Heap.rdw T.el22_encE hH37 (n := 1) rfl) hlc hic) (fun w39 hH40 => ?_)
    refine oA hH40 rfl rfl (ops_nil (thn_n (seq ?_)))
    by_cases hc41 : B.root ((([] : List En) ++ l).set (i : Int).toNat e) = B.root l
    ·skip
     have hrt := ‹_›
     refine region_draw (fun w' => Heap [bx b25 24 [u19], ow lo21 hi22 38 5 encE u19 ((([] : List En) ++ l).set (i : Int).toNat e), bx b4 38 [(.int .i64 e.n), (.int .i64 e.d), (.int .i64 e.f), (.int .i64 e.t), (.int .i64 e.a)], bx b1 24 [v], base w] w') T.mixed (fun w42 hr43 => ?_)
     have hH44 := hH40.redrawn hr43
     refine any_takes [0, 1, 2, 3, 4, 5, 6, 7, 8, 9, 10] (by kernel_rfl) hH44 _ _ _ (by kernel_rfl) ?_
     refine qM rfl rfl rfl (qM rfl rfl rfl ?_)
     refine qs_y rfl rfl (yv_lenS Tryz.underlying9 rfl) ?_
     refine qs_y rfl rfl (yv_sub rfl rfl (by omega)) ?_
     refine qs_y rfl rfl (yv_subS_hi Tryz.underlying9 rfl rfl (by omega)) ?_
     refine qM rfl rfl rfl (qM rfl rfl rfl ?_)
     refine qs_y rfl rfl (yv_lenS Tryz.underlying9 rfl) ?_
     refine qs_y rfl rfl (yv_sub rfl rfl (by omega)) ?_
     refine qs_y rfl rfl (yv_subS_lo Tryz.underlying9 rfl rfl (by omega)) ?_
     refine qs_y rfl rfl (yv_cat rfl rfl (by first | omega | (simp only [List.length_append, List.length_cons, List.length_nil]; omega))) ?_
     refine qs_nil ?_
     refine any_all [11] (by kernel_rfl) rfl ?_
     refine ⟨⟨_, rfl, ?_⟩, trivial⟩
     ·skip
      have hmt : (((B.fileT ((([] : List En) ++ l).set (i : Int).toNat e)).take (((B.fileT ((([] : List En) ++ l).set (i : Int).toNat e)).length : Int) - 21).toNat) ++ ((B.fileT l).drop (((B.fileT l).length : Int) - 21).toNat)) = B.mixT ((([] : List En) ++ l).set (i : Int).toNat e) (B.root l) := B.mix_of (by omega) (by omega)
      have hmx : B.loadR ((((B.fileT ((([] : List En) ++ l).set (i : Int).toNat e)).take (((B.fileT ((([] : List En) ++ l).set (i : Int).toNat e)).length : Int) - 21).toNat) ++ ((B.fileT l).drop (((B.fileT l).length : Int) - 21).toNat))) = if B.root ((([] : List En) ++ l).set (i : Int).toNat e) = B.root l then (((([] : List En) ++ l).set (i : Int).toNat e), 0) else ([], 14) := (congrArg B.loadR hmt).trans (B.load_mix hcc)
      refine op_fn rfl rfl rfl hH44 ((by have h := c40 (l := (((B.fileT ((([] : List En) ++ l).set (i : Int).toNat e)).take (((B.fileT ((([] : List En) ++ l).set (i : Int).toNat e)).length : Int) - 21).toNat) ++ ((B.fileT l).drop (((B.fileT l).length : Int) - 21).toNat))) (hG.now hH44 (n := 4) rfl) (by rw [hmt, B.mix_len]; omega); simp only [hmx, if_pos hrt] at h; exact h)) (fun u47 w45 lo48 hi49 hH46 hv50 => ?_)
      obtain ⟨bp51, hu, -⟩ := hv50
      subst hu
      have hH52 := Heap.weak (ψ := Rd encE 5 bp51 ((([] : List En) ++ l).set (i : Int).toNat e)) hH46 (n := 0) rfl (fun w' h => (by obtain ⟨p', e, h⟩ := h; rw [agg_slice e]; exact h))
      refine ops_nil ?_
      refine ⟨(hH52.sub (sC sR)), ?_⟩
      refine any_takes [12, 13, 14, 15] (by kernel_rfl) (hH52.sub (sC sR)) _ _ _ (by kernel_rfl) ?_
      refine qM rfl rfl rfl ?_
      refine qs_y rfl rfl (yv_extract rfl rfl) ?_
      refine qs_y rfl rfl (yv_extract rfl rfl) ?_
      refine qs_y rfl rfl (yv_assign rfl) (qs_nil ?_)
      refine any_done (by kernel_rfl) ?_
      refine thn_n (seq (seq (region (oM hH52 rfl rfl ?_))))
      refine ops_y hH52 rfl rfl (yv_eql rfl rfl) ?_
      refine oM hH52 rfl rfl (guard_yes rfl rfl rfl ?_)
      refine ops_y hH52 rfl rfl (yv_loadA (cs := [u19]) T.agg24 rfl rfl (fun _ hw => Heap.cellsw hw (n := 1) rfl (k := 0) rfl)) ?_
      refine guard_yes rfl rfl rfl ?_
      refine ops_y hH52 rfl rfl (yv_loadA (cs := [v]) T.agg24 rfl rfl (fun _ hw => Heap.cellsw hw (n := 4) rfl (k := 0) rfl)) ?_
      refine guard_yes rfl rfl rfl ?_
      refine op_fnV rfl rfl rfl hH52 (c42 (Heap.rdw T.el22_encE hH52 (n := 2) rfl) (h0.now hH52 (n := 5) rfl) (by omega) (by omega)) (fun w53 hH54 => ?_)
      refine guard_yes rfl rfl rfl ?_
      refine ops_y hH54 rfl rfl (yv_not rfl) ?_
      refine ops_y hH54 rfl rfl (yv_pick_t rfl rfl rfl) ?_
      refine ops_nil (thn_n ?_)
      by_cases hc55 : ((([] : List En) ++ l).set (i : Int).toNat e) = l
      ·skip
       refine cond_f rfl (not_decide_n hc55) ?_
       refine skip (thn_n (seq (region (oM hH54 rfl rfl ?_))))
       refine ops_y hH54 rfl rfl (yv_eql rfl rfl) ?_
       refine oM hH54 rfl rfl (guard_yes rfl rfl rfl (oM hH54 rfl rfl (guard_yes rfl rfl rfl ?_)))
       refine ops_y hH54 rfl rfl (yv_eql rfl rfl) ?_
       refine guard_yes rfl rfl rfl (oM hH54 rfl rfl (guard_yes rfl rfl rfl ?_))
       refine ops_y hH54 rfl rfl (yv_loadA (cs := [u19]) T.agg24 rfl rfl (fun _ hw => Heap.cellsw hw (n := 1) rfl (k := 0) rfl)) ?_
       refine guard_yes rfl rfl rfl ?_
       refine ops_y hH54 rfl rfl (yv_loadA (cs := [v]) T.agg24 rfl rfl (fun _ hw => Heap.cellsw hw (n := 4) rfl (k := 0) rfl)) ?_
       refine guard_yes rfl rfl rfl ?_
       refine op_fnV rfl rfl rfl hH54 (c42 (Heap.rdw T.el22_encE hH54 (n := 2) rfl) (h0.now hH54 (n := 5) rfl) (by omega) (by omega)) (fun w56 hH57 => ?_)
       refine guard_yes rfl rfl rfl ?_
       refine ops_y hH57 rfl rfl (yv_pick_t rfl rfl rfl) ?_
       refine ops_y hH57 rfl rfl (yv_pick_f rfl rfl rfl) ?_
       refine oM hH57 rfl rfl ?_
       by_cases hc58 : ((([] : List En) ++ l).set (i : Int).toNat e) = l
       ·skip
        refine guard_yes rfl rfl (dT hc58) ?_
        refine op_fnV rfl rfl rfl hH57 (c18 (hG.now hH57 (n := 5) rfl)) (fun w59 hH60 => ?_)
        refine ops_y hH60 rfl rfl (yv_pick_t rfl (dT hc58) rfl) ?_
        refine oA hH60 rfl rfl (ops_nil (thn_n (ret ?_)))
        have hH61 := (hH60.sub (sC (sC (sC (sC (sC sR))))))
        refine fin hH61 (fun w' hf => (res1 rfl (show RV _ _ _ (.tmp 6) _ from rfl))) (fun w' hf => ?_)
        first | rfl | contradiction | (exfalso; omega) | exact absurd (B.changed_coll hc0 hcc hcl hrt ‹_›) ‹_›
       ·skip
        refine guard_no rfl rfl (dF hc58) rfl ?_
        refine ops_y hH57 rfl rfl (yv_pick_f rfl (dF hc58) rfl) ?_
        refine oA hH57 rfl rfl (ops_nil (thn_n (ret ?_)))
        have hH62 := (hH57.sub (sC (sC (sC (sC (sC sR))))))
        refine fin hH62 (fun w' hf => (res1 rfl (show RV _ _ _ (.tmp 6) _ from rfl))) (fun w' hf => ?_)
        first | rfl | contradiction | (exfalso; omega) | exact absurd (B.changed_coll hc0 hcc hcl hrt ‹_›) ‹_›
      ·skip
       refine cond_t rfl (not_decide_t hc55) ?_
       refine seq ?_
       refine region_draw (fun w' => True) T.mixed (fun w63 hr64 => ?_)
       have hH65 := hH54.redrawn hr64
       refine any_takes [0, 3] (by kernel_rfl) trivial _ _ _ (by kernel_rfl) ?_
       refine qs_y rfl rfl (yv_field T.f24_0 rfl) ?_
       refine qs_y rfl rfl (yv_field T.f24_0 rfl) ?_
       refine qs_nil ?_
       refine any_all [1, 4] (by kernel_rfl) rfl ?_
       refine ⟨⟨_, rfl, ?_⟩, ⟨_, rfl, ?_⟩, trivial⟩
       ·skip
        refine ops_y hH65 rfl rfl (yv_load T.one22 rfl (fun _ hw => Heap.cellw hw (n := 4) rfl rfl)) ?_
        refine ops_nil ?_
        refine ⟨trivial, ?_⟩
        refine any_all [2, 4] (by kernel_rfl) rfl ?_
        refine ⟨⟨_, rfl, ?_⟩, ⟨_, rfl, ?_⟩, trivial⟩
        ·skip
         refine op_fn rfl rfl rfl hH65 (c48 (h0.now hH65 (n := 5) rfl) (by omega) (by first | exact hin0 | exact hic)) (fun u68 w66 lo69 hi70 hH67 hv71 => ?_)
         have hH72 := Heap.toOw hH67 (n := 0) rfl
         refine ops_nil ?_
         refine ⟨trivial, ?_⟩
         refine any_all [4] (by kernel_rfl) rfl ?_
         refine ⟨⟨_, rfl, ?_⟩, trivial⟩
         ·skip
          refine ops_y hH72 rfl rfl (yv_load T.one22 rfl (fun _ hw => Heap.cellw hw (n := 2) rfl rfl)) ?_
          refine ops_nil ?_
          refine ⟨trivial, ?_⟩
          refine any_all [5] (by kernel_rfl) rfl ?_
          refine ⟨⟨_, rfl, ?_⟩, trivial⟩
          ·skip
           refine op_fn rfl rfl rfl hH72 (c48 (Heap.rdw T.el22_encE hH72 (n := 3) rfl) (by omega) (by first | exact hin0 | exact hic)) (fun u75 w73 lo76 hi77 hH74 hv78 => ?_)
           have hH79 := Heap.toOw hH74 (n := 0) rfl
           refine ops_nil ?_
           refine ⟨trivial, ?_⟩
           refine any_all [6] (by kernel_rfl) rfl ?_
           refine ⟨⟨_, rfl, ?_⟩, trivial⟩
           ·skip
            refine op_append (n := 1) T.el56_encT rfl rfl rfl hH79 rfl (Heap.rdw T.el56_encT hH79 (n := 0) rfl) (by first | omega | (simp only [List.length_append, List.length_cons, List.length_nil]; omega)) (fun u80 lo82 hi83 w81 hH84 => ?_)
            refine ops_nil ?_
            refine ⟨trivial, ?_⟩
            refine any_all [7] (by kernel_rfl) rfl ?_
            refine ⟨⟨_, rfl, ?_⟩, trivial⟩
            ·skip
             refine op_fnV rfl rfl rfl hH84 (c47 (Heap.rdw T.el56_encT hH84 (n := 1) rfl) (B.cc_len hl24 hlc) (B.cc_each hin0 hic)) (fun w85 hH86 => ?_)
             refine ops_nil ?_
             refine ⟨trivial, ?_⟩
             refine any_takes [8] (by kernel_rfl) trivial _ _ _ (by kernel_rfl) ?_
             refine qM rfl rfl rfl (qs_nil ?_)
             by_cases hc87 : B.coll ((B.strs l) ++ (B.strs ((([] : List En) ++ l).set (i : Int).toNat e)))
             ·skip
              refine any_all [9] (by kernel_rfl) rfl ?_
              refine ⟨⟨_, rfl, ?_⟩, trivial⟩
              ·skip
               refine guard_yes rfl rfl (dT hc87) ?_
               refine op_fnV rfl rfl rfl hH86 (c18 (hG.now hH86 (n := 7) rfl)) (fun w88 hH89 => ?_)
               refine ops_nil ?_
               refine ⟨trivial, ?_⟩
               refine any_takes [10, 11] (by kernel_rfl) trivial _ _ _ (by kernel_rfl) ?_
               refine qs_y rfl rfl (yv_pick_t rfl (dT hc87) rfl) ?_
               refine qs_y rfl rfl (yv_assign rfl) (qs_nil ?_)
               refine any_done (by kernel_rfl) ?_
               refine thn_n (ret (thn_r ?_))
               have hH90 := (hH89.sub (sC (sC (sC (sC (sC (sC (sC sR))))))))
               refine fin hH90 (fun w' hf => (res1 rfl (show RV _ _ _ (.tmp 6) _ from rfl))) (fun w' hf => ?_)
               first | rfl | contradiction | (exfalso; omega) | exact absurd (B.changed_coll hc0 hcc hcl hrt ‹_›) ‹_›
             ·skip
              refine any_takes [9, 10, 11] (by kernel_rfl) trivial _ _ _ (by kernel_rfl) ?_
              refine qs_no rfl rfl rfl (dF hc87) rfl ?_
              refine qs_y rfl rfl (yv_pick_f rfl (dF hc87) rfl) ?_
              refine qs_y rfl rfl (yv_assign rfl) (qs_nil ?_)
              refine any_done (by kernel_rfl) ?_
              refine thn_n (ret (thn_r ?_))
              have hH91 := (hH86.sub (sC (sC (sC (sC (sC (sC (sC sR))))))))
              refine fin hH91 (fun w' hf => (res1 rfl (show RV _ _ _ (.tmp 6) _ from rfl))) (fun w' hf => ?_)
              first | rfl | contradiction | (exfalso; omega) | exact absurd (B.changed_coll hc0 hcc hcl hrt ‹_›) ‹_›
        ·skip
         refine ops_y hH65 rfl rfl (yv_load T.one22 rfl (fun _ hw => Heap.cellw hw (n := 1) rfl rfl)) ?_
         refine ops_nil ?_
         refine ⟨trivial, ?_⟩
         refine any_all [2] (by kernel_rfl) rfl ?_
         refine ⟨⟨_, rfl, ?_⟩, trivial⟩
         ·skip
          refine op_fn rfl rfl rfl hH65 (c48 (h0.now hH65 (n := 5) rfl) (by omega) (by first | exact hin0 | exact hic)) (fun u94 w92 lo95 hi96 hH93 hv97 => ?_)
          have hH98 := Heap.toOw hH93 (n := 0) rfl
          refine ops_nil ?_
          refine ⟨trivial, ?_⟩
          refine any_all [5] (by kernel_rfl) rfl ?_
          refine ⟨⟨_, rfl, ?_⟩, trivial⟩
          ·skip
           refine op_fn rfl rfl rfl hH98 (c48 (Heap.rdw T.el22_encE hH98 (n := 3) rfl) (by omega) (by first | exact hin0 | exact hic)) (fun u101 w99 lo102 hi103 hH100 hv104 => ?_)
           have hH105 := Heap.toOw hH100 (n := 0) rfl
           refine ops_nil ?_
           refine ⟨trivial, ?_⟩
           refine any_all [6] (by kernel_rfl) rfl ?_
           refine ⟨⟨_, rfl, ?_⟩, trivial⟩
           ·skip
            refine op_append (n := 1) T.el56_encT rfl rfl rfl hH105 rfl (Heap.rdw T.el56_encT hH105 (n := 0) rfl) (by first | omega | (simp only [List.length_append, List.length_cons, List.length_nil]; omega)) (fun u106 lo108 hi109 w107 hH110 => ?_)
            refine ops_nil ?_
            refine ⟨trivial, ?_⟩
            refine any_all [7] (by kernel_rfl) rfl ?_
            refine ⟨⟨_, rfl, ?_⟩, trivial⟩
            ·skip
             refine op_fnV rfl rfl rfl hH110 (c47 (Heap.rdw T.el56_encT hH110 (n := 1) rfl) (B.cc_len hl24 hlc) (B.cc_each hin0 hic)) (fun w111 hH112 => ?_)
             refine ops_nil ?_
             refine ⟨trivial, ?_⟩
             refine any_takes [8] (by kernel_rfl) trivial _ _ _ (by kernel_rfl) ?_
             refine qM rfl rfl rfl (qs_nil ?_)
             by_cases hc113 : B.coll ((B.strs l) ++ (B.strs ((([] : List En) ++ l).set (i : Int).toNat e)))
             ·skip
              refine any_all [9] (by kernel_rfl) rfl ?_
              refine ⟨⟨_, rfl, ?_⟩, trivial⟩
              ·skip
               refine guard_yes rfl rfl (dT hc113) ?_
               refine op_fnV rfl rfl rfl hH112 (c18 (hG.now hH112 (n := 7) rfl)) (fun w114 hH115 => ?_)
               refine ops_nil ?_
               refine ⟨trivial, ?_⟩
               refine any_takes [10, 11] (by kernel_rfl) trivial _ _ _ (by kernel_rfl) ?_
               refine qs_y rfl rfl (yv_pick_t rfl (dT hc113) rfl) ?_
               refine qs_y rfl rfl (yv_assign rfl) (qs_nil ?_)
               refine any_done (by kernel_rfl) ?_
               refine thn_n (ret (thn_r ?_))
               have hH116 := (hH115.sub (sC (sC (sC (sC (sC (sC (sC sR))))))))
               refine fin hH116 (fun w' hf => (res1 rfl (show RV _ _ _ (.tmp 6) _ from rfl))) (fun w' hf => ?_)
               first | rfl | contradiction | (exfalso; omega) | exact absurd (B.changed_coll hc0 hcc hcl hrt ‹_›) ‹_›
             ·skip
              refine any_takes [9, 10, 11] (by kernel_rfl) trivial _ _ _ (by kernel_rfl) ?_
              refine qs_no rfl rfl rfl (dF hc113) rfl ?_
              refine qs_y rfl rfl (yv_pick_f rfl (dF hc113) rfl) ?_
              refine qs_y rfl rfl (yv_assign rfl) (qs_nil ?_)
              refine any_done (by kernel_rfl) ?_
              refine thn_n (ret (thn_r ?_))
              have hH117 := (hH112.sub (sC (sC (sC (sC (sC (sC (sC sR))))))))
              refine fin hH117 (fun w' hf => (res1 rfl (show RV _ _ _ (.tmp 6) _ from rfl))) (fun w' hf => ?_)
              first | rfl | contradiction | (exfalso; omega) | exact absurd (B.changed_coll hc0 hcc hcl hrt ‹_›) ‹_›
       ·skip
        refine ops_y hH65 rfl rfl (yv_load T.one22 rfl (fun _ hw => Heap.cellw hw (n := 1) rfl rfl)) ?_
        refine ops_nil ?_
        refine ⟨trivial, ?_⟩
        refine any_all [1] (by kernel_rfl) rfl ?_
        refine ⟨⟨_, rfl, ?_⟩, trivial⟩
        ·skip
         refine ops_y hH65 rfl rfl (yv_load T.one22 rfl (fun _ hw => Heap.cellw hw (n := 4) rfl rfl)) ?_
         refine ops_nil ?_
         refine ⟨trivial, ?_⟩
         refine any_all [2] (by kernel_rfl) rfl ?_
         refine ⟨⟨_, rfl, ?_⟩, trivial⟩
         ·skip
          refine op_fn rfl rfl rfl hH65 (c48 (h0.now hH65 (n := 5) rfl) (by omega) (by first | exact hin0 | exact hic)) (fun u120 w118 lo121 hi122 hH119 hv123 => ?_)
          have hH124 := Heap.toOw hH119 (n := 0) rfl
          refine ops_nil ?_
          refine ⟨trivial, ?_⟩
          refine any_all [5] (by kernel_rfl) rfl ?_
          refine ⟨⟨_, rfl, ?_⟩, trivial⟩
          ·skip
           refine op_fn rfl rfl rfl hH124 (c48 (Heap.rdw T.el22_encE hH124 (n := 3) rfl) (by omega) (by first | exact hin0 | exact hic)) (fun u127 w125 lo128 hi129 hH126 hv130 => ?_)
           have hH131 := Heap.toOw hH126 (n := 0) rfl
           refine ops_nil ?_
           refine ⟨trivial, ?_⟩
           refine any_all [6] (by kernel_rfl) rfl ?_
           refine ⟨⟨_, rfl, ?_⟩, trivial⟩
           ·skip
            refine op_append (n := 1) T.el56_encT rfl rfl rfl hH131 rfl (Heap.rdw T.el56_encT hH131 (n := 0) rfl) (by first | omega | (simp only [List.length_append, List.length_cons, List.length_nil]; omega)) (fun u132 lo134 hi135 w133 hH136 => ?_)
            refine ops_nil ?_
            refine ⟨trivial, ?_⟩
            refine any_all [7] (by kernel_rfl) rfl ?_
            refine ⟨⟨_, rfl, ?_⟩, trivial⟩
            ·skip
             refine op_fnV rfl rfl rfl hH136 (c47 (Heap.rdw T.el56_encT hH136 (n := 1) rfl) (B.cc_len hl24 hlc) (B.cc_each hin0 hic)) (fun w137 hH138 => ?_)
             refine ops_nil ?_
             refine ⟨trivial, ?_⟩
             refine any_takes [8] (by kernel_rfl) trivial _ _ _ (by kernel_rfl) ?_
             refine qM rfl rfl rfl (qs_nil ?_)
             by_cases hc139 : B.coll ((B.strs l) ++ (B.strs ((([] : List En) ++ l).set (i : Int).toNat e)))
             ·skip
              refine any_all [9] (by kernel_rfl) rfl ?_
              refine ⟨⟨_, rfl, ?_⟩, trivial⟩
              ·skip
               refine guard_yes rfl rfl (dT hc139) ?_
               refine op_fnV rfl rfl rfl hH138 (c18 (hG.now hH138 (n := 7) rfl)) (fun w140 hH141 => ?_)
               refine ops_nil ?_
               refine ⟨trivial, ?_⟩
               refine any_takes [10, 11] (by kernel_rfl) trivial _ _ _ (by kernel_rfl) ?_
               refine qs_y rfl rfl (yv_pick_t rfl (dT hc139) rfl) ?_
               refine qs_y rfl rfl (yv_assign rfl) (qs_nil ?_)
               refine any_done (by kernel_rfl) ?_
               refine thn_n (ret (thn_r ?_))
               have hH142 := (hH141.sub (sC (sC (sC (sC (sC (sC (sC sR))))))))
               refine fin hH142 (fun w' hf => (res1 rfl (show RV _ _ _ (.tmp 6) _ from rfl))) (fun w' hf => ?_)
               first | rfl | contradiction | (exfalso; omega) | exact absurd (B.changed_coll hc0 hcc hcl hrt ‹_›) ‹_›
             ·skip
              refine any_takes [9, 10, 11] (by kernel_rfl) trivial _ _ _ (by kernel_rfl) ?_
              refine qs_no rfl rfl rfl (dF hc139) rfl ?_
              refine qs_y rfl rfl (yv_pick_f rfl (dF hc139) rfl) ?_
              refine qs_y rfl rfl (yv_assign rfl) (qs_nil ?_)
              refine any_done (by kernel_rfl) ?_
              refine thn_n (ret (thn_r ?_))
              have hH143 := (hH138.sub (sC (sC (sC (sC (sC (sC (sC sR))))))))
              refine fin hH143 (fun w' hf => (res1 rfl (show RV _ _ _ (.tmp 6) _ from rfl))) (fun w' hf => ?_)
              first | rfl | contradiction | (exfalso; omega) | exact absurd (B.changed_coll hc0 hcc hcl hrt ‹_›) ‹_›
    ·skip
     have hrf := ‹_›
     refine region_draw (fun w' => Heap [bx b25 24 [u19], ow lo21 hi22 38 5 encE u19 ((([] : List En) ++ l).set (i : Int).toNat e), bx b4 38 [(.int .i64 e.n), (.int .i64 e.d), (.int .i64 e.f), (.int .i64 e.t), (.int .i64 e.a)], bx b1 24 [v], base w] w') T.mixed (fun w144 hr145 => ?_)
     have hH146 := hH40.redrawn hr145
     refine any_takes [0, 1, 2, 3, 4, 5, 6, 7, 8, 9, 10] (by kernel_rfl) hH146 _ _ _ (by kernel_rfl) ?_
     refine qM rfl rfl rfl (qM rfl rfl rfl ?_)
     refine qs_y rfl rfl (yv_lenS Tryz.underlying9 rfl) ?_
     refine qs_y rfl rfl (yv_sub rfl rfl (by omega)) ?_
     refine qs_y rfl rfl (yv_subS_hi Tryz.underlying9 rfl rfl (by omega)) ?_
     refine qM rfl rfl rfl (qM rfl rfl rfl ?_)
     refine qs_y rfl rfl (yv_lenS Tryz.underlying9 rfl) ?_
     refine qs_y rfl rfl (yv_sub rfl rfl (by omega)) ?_
     refine qs_y rfl rfl (yv_subS_lo Tryz.underlying9 rfl rfl (by omega)) ?_
     refine qs_y rfl rfl (yv_cat rfl rfl (by first | omega | (simp only [List.length_append, List.length_cons, List.length_nil]; omega))) ?_
     refine qs_nil ?_
     refine any_all [11] (by kernel_rfl) rfl ?_
     refine ⟨⟨_, rfl, ?_⟩, trivial⟩
     ·skip
      have hmt : (((B.fileT ((([] : List En) ++ l).set (i : Int).toNat e)).take (((B.fileT ((([] : List En) ++ l).set (i : Int).toNat e)).length : Int) - 21).toNat) ++ ((B.fileT l).drop (((B.fileT l).length : Int) - 21).toNat)) = B.mixT ((([] : List En) ++ l).set (i : Int).toNat e) (B.root l) := B.mix_of (by omega) (by omega)
      have hmx : B.loadR ((((B.fileT ((([] : List En) ++ l).set (i : Int).toNat e)).take (((B.fileT ((([] : List En) ++ l).set (i : Int).toNat e)).length : Int) - 21).toNat) ++ ((B.fileT l).drop (((B.fileT l).length : Int) - 21).toNat))) = if B.root ((([] : List En) ++ l).set (i : Int).toNat e) = B.root l then (((([] : List En) ++ l).set (i : Int).toNat e), 0) else ([], 14) := (congrArg B.loadR hmt).trans (B.load_mix hcc)
      refine op_fn rfl rfl rfl hH146 ((by have h := c40 (l := (((B.fileT ((([] : List En) ++ l).set (i : Int).toNat e)).take (((B.fileT ((([] : List En) ++ l).set (i : Int).toNat e)).length : Int) - 21).toNat) ++ ((B.fileT l).drop (((B.fileT l).length : Int) - 21).toNat))) (hG.now hH146 (n := 4) rfl) (by rw [hmt, B.mix_len]; omega); simp only [hmx, if_neg hrf] at h; exact h)) (fun u149 w147 lo150 hi151 hH148 hv152 => ?_)
      obtain ⟨bp153, hu, -⟩ := hv152
      subst hu
      have hH154 := Heap.weak (ψ := Rd encE 5 bp153 []) hH148 (n := 0) rfl (fun w' h => (by obtain ⟨p', e, h⟩ := h; rw [agg_slice e]; exact h))
      refine ops_nil ?_
      refine ⟨(hH154.sub (sC sR)), ?_⟩
      refine any_takes [12, 13, 14, 15] (by kernel_rfl) (hH154.sub (sC sR)) _ _ _ (by kernel_rfl) ?_
      refine qM rfl rfl rfl ?_
      refine qs_y rfl rfl (yv_extract rfl rfl) ?_
      refine qs_y rfl rfl (yv_extract rfl rfl) ?_
      refine qs_y rfl rfl (yv_assign rfl) (qs_nil ?_)
      refine any_done (by kernel_rfl) ?_
      refine thn_n (seq (seq (region (oM hH154 rfl rfl ?_))))
      refine ops_y hH154 rfl rfl (yv_eql rfl rfl) ?_
      refine oM hH154 rfl rfl (guard_no rfl rfl rfl rfl (guard_no rfl rfl rfl rfl (guard_no rfl rfl rfl rfl (guard_no rfl rfl rfl rfl ?_))))
      refine ops_y hH154 rfl rfl (yv_pick_f rfl rfl rfl) ?_
      refine ops_nil (thn_n ?_)
      refine cond_f rfl rfl ?_
      refine skip (thn_n (seq (region (oM hH154 rfl rfl ?_))))
      refine ops_y hH154 rfl rfl (yv_eql rfl rfl) ?_
      refine oM hH154 rfl rfl (guard_no rfl rfl rfl rfl (guard_no rfl rfl rfl rfl (guard_no rfl rfl rfl rfl ?_)))
      refine guard_none rfl rfl rfl ?_
      refine guard_none rfl rfl rfl ?_
      refine guard_none rfl rfl rfl ?_
      refine guard_no rfl rfl rfl rfl ?_
      refine ops_y hH154 rfl rfl (yv_pick_t rfl rfl rfl) ?_
      refine oM hH154 rfl rfl (guard_yes rfl rfl rfl ?_)
      refine op_fnV rfl rfl rfl hH154 (c18 (hG.now hH154 (n := 5) rfl)) (fun w155 hH156 => ?_)
      refine ops_y hH156 rfl rfl (yv_pick_t rfl rfl rfl) ?_
      refine oA hH156 rfl rfl (ops_nil (thn_n (ret ?_)))
      have hH157 := (hH156.sub (sC (sC (sC (sC (sC sR))))))
      refine fin hH157 (fun w' hf => (res1 rfl (show RV _ _ _ (.tmp 6) _ from rfl))) (fun w' hf => ?_)
      first | rfl | contradiction | (exfalso; omega) | exact absurd (B.changed_coll hc0 hcc hcl hrt ‹_›) ‹_›
   ·skip
    refine cond_t rfl (not_decide_t hc38) ?_
    refine seq (region ?_)
    refine op_fnV rfl rfl rfl hH37 (c18 (hG.now hH37 (n := 4) rfl)) (fun w158 hH159 => ?_)
    refine oA hH159 rfl rfl (ops_nil (thn_n (ret (thn_r ?_))))
    have hH160 := (hH159.sub (sC (sC (sC (sC sR)))))
    refine fin hH160 (fun w' hf => (res1 rfl (show RV _ _ _ (.tmp 6) _ from rfl))) (fun w' hf => ?_)
    first | rfl | contradiction | (exfalso; omega) | exact absurd (B.changed_coll hc0 hcc hcl hrt ‹_›) ‹_›
 ·skip
  refine guard_no rfl rfl (not_decide_t hc9) rfl ?_
  refine guard_no rfl rfl (not_decide_t hc9) rfl ?_
  refine guard_no rfl rfl (not_decide_t hc9) rfl ?_
  refine guard_no rfl rfl (not_decide_t hc9) rfl ?_
  refine ops_y hH8 rfl rfl (yv_pick_t rfl (not_decide_t hc9) rfl) ?_
  refine ops_nil (thn_n ?_)
  refine cond_t rfl rfl ?_
  refine seq (region ?_)
  refine op_fnV rfl rfl rfl hH8 (c18 (hG.now hH8 (n := 2) rfl)) (fun w161 hH162 => ?_)
  refine oA hH162 rfl rfl (ops_nil (thn_n (ret (thn_r ?_))))
  have hH163 := (hH162.sub (sC (sC sR)))
  refine fin hH163 (fun w' hf => (res1 rfl (show RV _ _ _ (.tmp 6) _ from rfl))) (fun w' hf => ?_)
  first | rfl | contradiction | (exfalso; omega) | exact absurd (B.changed_coll hc0 hcc hcl hrt ‹_›) ‹_›
end Go.Fip
