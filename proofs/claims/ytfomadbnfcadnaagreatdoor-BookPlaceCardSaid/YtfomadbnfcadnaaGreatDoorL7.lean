/- Walks of the law, and what it alone needs, by program (wip/tools). -/
import Derived.Test.YtfomadbnfcadnaaGreatDoorMJ
set_option linter.unusedVariables false
set_option linter.unusedSimpArgs false
set_option linter.unusedSectionVars false
set_option linter.unnecessarySimpa false
namespace Go.Fip
theorem sC {α : Type} {a : α} {l m : List α} (h : l.Sublist m) : l.Sublist (a :: m) := .cons a h
theorem sR {α : Type} {l : List α} : l.Sublist l := .refl l
theorem uC {env env' : Env} {i : Nat} {v : Value} (h : env.find i = some v) (hs : Sub env' env) : Sub ((i, v) :: env') env := Sub.cons h hs
theorem dF {p : Prop} [Decidable p] (h : ¬ p) : decide p = false := decide_eq_false h
theorem dT {p : Prop} [Decidable p] (h : p) : decide p = true := decide_eq_true h
section
variable {r : Option Nat} {P : Program} {N : Nat} {S : World → Prop} {ds : List Deferred} {env : Env} {w : World} {Q : Post} {all : Array Oper} {rest : List Oper} {d : Nat} {x : Operand} {ty : TypeId} {pos : String} {after : Array Edge} {v : Value}
theorem oM (hS : S w) (hd : Nat.blt d N = true) (hx : ev env x = some v) (h : Ops r P N all rest ds ((d, v) :: env) w Q) : Ops r P N all (⟨some d, .move x, ty, pos, after, none⟩ :: rest) ds env w Q := ops_y hS rfl hd (yv_move hx) h
theorem oA (hS : S w) (hd : Nat.blt d N = true) (hx : ev env x = some v) (h : Ops r P N all rest ds ((d, v) :: env) w Q) : Ops r P N all (⟨some d, .assign x, ty, pos, after, none⟩ :: rest) ds env w Q := ops_y hS rfl hd (yv_assign hx) h
end
section
variable {P : Program} {N : Nat} {S : World → Prop} {ops : Array Oper} {ds : List Deferred} {env : Env} {K : Env → Prop} {i : Nat} {is : List Nat} {d : Nat} {x : Operand} {ty : TypeId} {pos : String} {after : Array Edge} {v : Value}
theorem qM (hi : ops[i]? = some ⟨some d, .move x, ty, pos, after, none⟩) (hN : Nat.blt d N = true) (hx : ev env x = some v) (h : Qs P N S ops ds K is ((d, v) :: env)) : Qs P N S ops ds K (i :: is) env := qs_y hi hN (yv_move hx) h
theorem qW {j : Nat} {want : Bool} {s : Nat} {b : Bool} (hi : ops[i]? = some ⟨some d, .move x, ty, pos, after, some (j, want)⟩) (hj : (ops[j]?).bind (·.dst) = some s) (hs : env.find s = some (.bool b)) (hb : b = want) (hN : Nat.blt d N = true) (hx : ev env x = some v) (h : Qs P N S ops ds K is ((d, v) :: env)) : Qs P N S ops ds K (i :: is) env := qs_yes hi hj hs hb hN (yv_move hx) h
end
end Go.Fip
namespace Go.Fip
open Go.ChangeShapes Go.WideShapes Go.ChangeAt Go.RowKit
section
variable {H : Type} {enc : TypeId × Value → H} {P : Program} {w : World}
theorem trodAll_below (hl : laidOutB P = true) {W W' : World} (hb : Below W.heap.size W W') : ∀ (ts : List TypeId) (vs : List Value) (ds : List (DataW H)) (ps : List MemPlace), (ts.all fun t => P.readableRec t && decide (t < P.types.size)) = true →
    DataW.TrodAll enc P W 0 (fun _ => true) true ts vs ds ps → (∀ x ∈ ps, x.block < W.heap.size) → DataW.TrodAll enc P W' 0 (fun b => decide (b < W.heap.size)) true ts vs ds ps
  | [], vs, ds, ps, _, h, _ => by
    obtain ⟨rfl, rfl, rfl⟩ := trodAll_nil h
    rfl
  | t :: ts, vs, ds, ps, hr, h, hlt => by
    obtain ⟨v, vs, d, ds, p, q, rfl, rfl, rfl, h1, h2⟩ := trodAll_cons h
    simp only [List.all_cons, Bool.and_eq_true, decide_eq_true_eq] at hr
    exact ⟨p, q, Below.trod hl hr.1.1 hr.1.2 h1 hb (fun x hx => hlt x (List.mem_append_left _ hx)), trodAll_below hl hb ts vs ds q (by simpa using hr.2) h2 (fun x hx => hlt x (List.mem_append_right _ hx)), rfl⟩
theorem law_post {f : Func} {s : ChangeSpec} {apart fresh : Bool} {W W' : World} {args : Array Value} {ds : List (DataW H)} {before p : List MemPlace} {tb : TypeId} (hl : laidOutB P = true) (hb : Below W.heap.size W W')
    (hr : (f.params.toList.all fun t => P.readableRec t && decide (t < P.types.size)) = true) (hv : s.vars = []) (hW : DataW.Whole enc P f.params.toList s.vars apart W args.toList ds [] before)
    (hA : DataW.TrodAll enc P W 0 (fun _ => true) true f.params.toList args.toList ds p) (hp : before = p) (hrt : f.resultTypes = #[tb]) (htb : P.underlying tb = some .bool) (hs : s.fn H (ds ++ []) = { results := [.lit (.bool true)], args := ds }) :
    s.post enc P f apart fresh false false W args (.bool true) W' := by
  subst hp
  refine ⟨ds, [], before, [], before, [], hW, ?_, ?_, ?_, Below.frame hb _, fun h => by cases h⟩
  · rw [hs, hrt]; exact trodAll_mk1 (shut_bool htb _)
  · rw [hs]; exact trodAll_below hl hb _ _ _ _ hr hA (fun x hx => by simpa using hW.lt x hx)
  · rw [hs, hv]; rfl
end
end Go.Fip
namespace Go.Fip
open Go.Proofs Go.RowKit
namespace K
theorem k1 : B.balR B.three 2 11 = (180, 0) := by decide +kernel
theorem k2 : B.balR B.three 3 9 = (0, 0) := by decide +kernel
end K
end Go.Fip
namespace Go.Fip.B
open Go.Fip
def strsF : Nat → List En → List (List UInt8)
  | 0, _ => []
  | f + 1, l => if l.length = 0 then [[]] else if l.length = 1 then [leaf (nth l 0)] else strsF f (l.take (half l.length)) ++ strsF f (l.drop (half l.length)) ++ [both (root (l.take (half l.length))) (root (l.drop (half l.length)))]
def strs (l : List En) : List (List UInt8) := strsF (l.length + 1) l
theorem strsF_fuel : ∀ (f g : Nat) (l : List En), l.length < f → l.length < g → strsF f l = strsF g l
  | 0, g, l, h, _ => absurd h (Nat.not_lt_zero _)
  | f + 1, 0, l, _, h => absurd h (Nat.not_lt_zero _)
  | f + 1, g + 1, l, h1, h2 => by
    unfold strsF
    split
    · rfl
    split
    · rfl
    · have hh := half_lt (n := l.length) (by omega)
      rw [strsF_fuel f g (l.take (half l.length)) (by rw [List.length_take]; omega) (by rw [List.length_take]; omega), strsF_fuel f g (l.drop (half l.length)) (by rw [List.length_drop]; omega) (by rw [List.length_drop]; omega)]
theorem strs_nil {l : List En} (h : l.length = 0) : strs l = [[]] := by unfold strs strsF; rw [if_pos h]
theorem strs_one {l : List En} (h : l.length = 1) : strs l = [leaf (nth l 0)] := by unfold strs strsF; rw [if_neg (by omega), if_pos h]
theorem strs_two {l : List En} (h : 2 ≤ l.length) : strs l = strs (l.take (half l.length)) ++ strs (l.drop (half l.length)) ++ [both (root (l.take (half l.length))) (root (l.drop (half l.length)))] := by
  have hh := half_lt (n := l.length) (by omega)
  conv => lhs; unfold strs strsF
  rw [if_neg (by omega), if_neg (by omega)]
  unfold strs
  rw [strsF_fuel l.length ((l.take (half l.length)).length + 1) _ (by rw [List.length_take]; omega) (Nat.lt_succ_self _), strsF_fuel l.length ((l.drop (half l.length)).length + 1) _ (by rw [List.length_drop]; omega) (Nat.lt_succ_self _)]
def coll (l : List (List UInt8)) : Prop := ∃ i : Nat, i < l.length ∧ ∃ j : Nat, j < i ∧ sm (nth l (j : Int)) = sm (nth l (i : Int)) ∧ ¬ nth l (j : Int) = nth l (i : Int)
instance {l : List (List UInt8)} : Decidable (coll l) := by unfold coll; infer_instance
def inj (l : List (List UInt8)) : Prop := ∀ x ∈ l, ∀ y ∈ l, sm x = sm y → x = y
theorem inj_of {l : List (List UInt8)} (h : ¬ coll l) : inj l := by
  intro x hx y hy e
  obtain ⟨i, hi, rfl⟩ := List.getElem_of_mem hx
  obtain ⟨j, hj, rfl⟩ := List.getElem_of_mem hy
  refine Decidable.byContradiction fun hne => h ?_
  rcases Nat.lt_trichotomy i j with h1 | h1 | h1
  · exact ⟨j, hj, i, h1, by rw [nth_nat hi, nth_nat hj]; exact e, by rw [nth_nat hi, nth_nat hj]; exact hne⟩
  · subst h1; exact absurd rfl hne
  · exact ⟨i, hi, j, h1, by rw [nth_nat hi, nth_nat hj]; exact e.symm, by rw [nth_nat hi, nth_nat hj]; exact fun c => hne c.symm⟩
theorem inj.sub {l m : List (List UInt8)} (h : inj m) (hs : ∀ x ∈ l, x ∈ m) : inj l := fun x hx y hy e => h x (hs x hx) y (hs y hy) e
theorem strs_mem_left {l : List En} (h : 2 ≤ l.length) : ∀ x ∈ strs (l.take (half l.length)), x ∈ strs l := fun x hx => by
  rw [strs_two h]; exact List.mem_append_left _ (List.mem_append_left _ hx)
theorem strs_mem_right {l : List En} (h : 2 ≤ l.length) : ∀ x ∈ strs (l.drop (half l.length)), x ∈ strs l := fun x hx => by
  rw [strs_two h]; exact List.mem_append_left _ (List.mem_append_right _ hx)
theorem strs_mem_top {l : List En} (h : 2 ≤ l.length) : both (root (l.take (half l.length))) (root (l.drop (half l.length))) ∈ strs l := by
  rw [strs_two h]; exact List.mem_append_right _ (List.mem_singleton.2 rfl)
theorem strs_mem_one {l : List En} (h : l.length = 1) : leaf (nth l 0) ∈ strs l := by rw [strs_one h]; exact List.mem_singleton.2 rfl
theorem inR_take {l : List En} (h : InR l) (k : Nat) : InR (l.take k) := fun i hi => by
  rw [List.length_take] at hi
  have := h i (by omega)
  rw [nth_nat (by omega)] at this
  rw [nth_nat (by rw [List.length_take]; omega), List.getElem_take]; exact this
theorem inR_drop {l : List En} (h : InR l) (k : Nat) : InR (l.drop k) := fun i hi => by
  rw [List.length_drop] at hi
  have := h (k + i) (by omega)
  rw [nth_nat (by omega)] at this
  rw [nth_nat (by rw [List.length_drop]; omega), List.getElem_drop]; exact this
theorem st_eq {S : List (List UInt8)} (hS : inj S) {e : En} (he : isEn e) : ∀ (n i : Nat) (p : List UInt64) (l : List En), l.length = n → i < n → InR l → (∀ x ∈ strs l, x ∈ S) → (∀ x ∈ (st e i n p).1, x ∈ S) → (st e i n p).2 = true → sm (lastS (st e i n p).1) = root l → e = nth l (i : Int) := by
  intro n
  induction n using Nat.strongRecOn with
  | _ n ih =>
    intro i p l hl hi hil hsl hst hok hroot
    by_cases h1 : n = 1
    · subst h1
      have e1 : (st e i 1 p).1 = [leaf e] := congrArg Prod.fst st_one
      rw [e1] at hst hroot
      rw [root_one hl] at hroot
      have hlast : lastS [leaf e] = leaf e := rfl
      rw [hlast] at hroot
      have h2 := hS _ (hst _ (List.mem_singleton.2 rfl)) _ (hsl _ (strs_mem_one hl)) hroot
      have h3 := leaf_inj he (hil 0 (by omega)) h2
      have h0 : i = 0 := by omega
      subst h0; exact h3
    · have hh := half_lt (n := n) (by omega)
      by_cases hp : p.length = 0
      · rw [st_none (by omega) hp] at hok; cases hok
      · by_cases hlt : i < half n
        · by_cases hok2 : (st e i (half n) (p.take (p.length - 1))).2 = true
          · have e1 : (st e i n p).1 = (st e i (half n) (p.take (p.length - 1))).1 ++ [both (sm (lastS (st e i (half n) (p.take (p.length - 1))).1)) (lastW p)] := congrArg Prod.fst (st_l1 (e := e) (by omega) (by omega) hlt hok2)
            rw [e1] at hst hroot
            rw [lastS_snoc, root_two (l := l) (by omega), hl] at hroot
            have hmt := strs_mem_top (l := l) (by omega)
            rw [hl] at hmt
            have hmx : (both (sm (lastS (st e i (half n) (p.take (p.length - 1))).1)) (lastW p)) ∈ (st e i (half n) (p.take (p.length - 1))).1 ++ [both (sm (lastS (st e i (half n) (p.take (p.length - 1))).1)) (lastW p)] := List.mem_append_right _ (List.mem_cons_self ..)
            have h2 : both (sm (lastS (st e i (half n) (p.take (p.length - 1))).1)) (lastW p) = both (root (l.take (half n))) (root (l.drop (half n))) := hS (both (sm (lastS (st e i (half n) (p.take (p.length - 1))).1)) (lastW p)) (hst (both (sm (lastS (st e i (half n) (p.take (p.length - 1))).1)) (lastW p)) hmx) (both (root (l.take (half n))) (root (l.drop (half n)))) (hsl _ hmt) hroot
            have h3 := (both_inj h2).1
            have h4 := ih (half n) (by omega) i (p.take (p.length - 1)) (l.take (half n)) (by rw [List.length_take]; omega) hlt (inR_take hil _)
              (fun x hx => hsl x (by have := strs_mem_left (l := l) (by omega) x; rw [hl] at this; exact this hx)) (fun x hx => hst x (List.mem_append_left _ hx)) hok2 h3
            rw [h4, nth_nat (by rw [List.length_take]; omega), nth_nat (by omega), List.getElem_take]
          · rw [st_l0 (by omega) (by omega) hlt hok2] at hok; cases hok
        · by_cases hok2 : (st e (i - half n) (n - half n) (p.take (p.length - 1))).2 = true
          · have e1 : (st e i n p).1 = (st e (i - half n) (n - half n) (p.take (p.length - 1))).1 ++ [both (lastW p) (sm (lastS (st e (i - half n) (n - half n) (p.take (p.length - 1))).1))] := congrArg Prod.fst (st_r1 (e := e) (by omega) (by omega) hlt hok2)
            rw [e1] at hst hroot
            rw [lastS_snoc, root_two (l := l) (by omega), hl] at hroot
            have hmt := strs_mem_top (l := l) (by omega)
            rw [hl] at hmt
            have hmx : (both (lastW p) (sm (lastS (st e (i - half n) (n - half n) (p.take (p.length - 1))).1))) ∈ (st e (i - half n) (n - half n) (p.take (p.length - 1))).1 ++ [both (lastW p) (sm (lastS (st e (i - half n) (n - half n) (p.take (p.length - 1))).1))] := List.mem_append_right _ (List.mem_cons_self ..)
            have h2 : both (lastW p) (sm (lastS (st e (i - half n) (n - half n) (p.take (p.length - 1))).1)) = both (root (l.take (half n))) (root (l.drop (half n))) := hS (both (lastW p) (sm (lastS (st e (i - half n) (n - half n) (p.take (p.length - 1))).1))) (hst (both (lastW p) (sm (lastS (st e (i - half n) (n - half n) (p.take (p.length - 1))).1))) hmx) (both (root (l.take (half n))) (root (l.drop (half n)))) (hsl _ hmt) hroot
            have h3 := (both_inj h2).2
            have h4 := ih (n - half n) (by omega) (i - half n) (p.take (p.length - 1)) (l.drop (half n)) (by rw [List.length_drop]; omega) (by omega) (inR_drop hil _)
              (fun x hx => hsl x (by have := strs_mem_right (l := l) (by omega) x; rw [hl] at this; exact this hx)) (fun x hx => hst x (List.mem_append_left _ hx)) hok2 h3
            have h5 : nth (l.drop (half n)) ((i - half n : Nat) : Int) = nth l ((half n + (i - half n) : Nat) : Int) := by
              rw [nth_nat (by rw [List.length_drop]; omega), nth_nat (by omega), List.getElem_drop]
            have h6 : half n + (i - half n) = i := by omega
            rw [h6] at h5
            exact h4.trans h5
          · rw [st_r0 (by omega) (by omega) hlt hok2] at hok; cases hok
end Go.Fip.B
namespace Go.Fip
open Go.Proofs Go.RowKit
theorem B.nth_map_sm {l : List (List UInt8)} {i j : Nat} (hj : j < i) (hi : i ≤ l.length) : nth ((l.take i).map B.sm) (j : Int) = B.sm (nth l (j : Int)) := by
 rw [nth_nat (by rw [List.length_map, List.length_take]; omega), nth_nat (by omega), List.getElem_map, List.getElem_take]
theorem B.map_sm_succ {l : List (List UInt8)} {i : Nat} (hi : i < l.length) : (l.take i).map B.sm ++ [B.sm (nth l (i : Int))] = (l.take (i + 1)).map B.sm := by
 rw [List.take_succ_eq_append_getElem hi, List.map_append, nth_nat hi]; rfl
theorem word_eq {a b : UInt64} (h : (a.toNat : Int) = (b.toNat : Int)) : a = b := UInt64.toNat_inj.1 (by omega)
theorem word_ne {a b : UInt64} (h : ¬ (a.toNat : Int) = (b.toNat : Int)) : ¬ a = b := fun e => h (by rw [e])
theorem c47 {v : Value} {l : List (List UInt8)} {w : World} (h0 : Rd encT 1 v l w) (hn : l.length ≤ 1000000) (hlen : ∀ x ∈ l, x.length ≤ 1000)  :
  Fn Tryz.prog 47 [v].toArray w (fun u _ => u = .bool (decide (B.coll l))) := by
 refine fn_of' (args := [v]) Tryz.func47 rfl (ent Tryz.func47 (by kernel_rfl) rfl) rfl rfl (fun hH => ?_)
 refine seq (region (oA hH rfl rfl (ops_nil (thn_n (seq (region (oA hH rfl rfl (ops_nil (thn_n ?_)))))))))
 refine seq (seq (region (oA hH rfl rfl (ops_nil (thn_n (block ?_))))))
 have hH1 := ow_nil (enc := encW) 32 1 hH
 refine loop (S := Nat × Value × Nat × Nat) (fun (i, v_3, lo_3, hi_3) => [(4, (.int .i64 (i : Int))), (3, v_3), (0, v)]) (fun (i, v_3, lo_3, hi_3) w1 => Heap [ow lo_3 hi_3 32 1 encW v_3 ((l.take i).map B.sm), base w] w1 ∧ i ≤ l.length ∧ ∀ i2 : Nat, i2 < i → ∀ j : Nat, j < i2 → ¬ (B.sm (nth l (j : Int)) = B.sm (nth l (i2 : Int)) ∧ ¬ nth l (j : Int) = nth l (i2 : Int))) (fun (i, v_3, lo_3, hi_3) => l.length - i) (0, (.slice none 0 0), w.heap.size, w.heap.size) (uC rfl (uC rfl (uC rfl (Sub.nil _)))) ?_ ?_
 ·exact ⟨(Heap.recast (n := 0) hH1 rfl (rfl)), by omega, fun i2 h => by omega⟩
 ·rintro ⟨i, v_3, lo_3, hi_3⟩ w2 ⟨hH3, hi, hall⟩
  show Holds _ _ _ _ _ [(4, (.int .i64 (i : Int))), (3, v_3), (0, v)] _ _
  have hml : ((l.take i).map B.sm).length = i := by rw [List.length_map, List.length_take]; omega
  refine seq (seq (region (oM hH3 rfl rfl (oM hH3 rfl rfl ?_))))
  refine ops_y hH3 rfl rfl (yv_len T.sl56 rfl (h0.now hH3 (n := 1) rfl).is) ?_
  refine ops_y hH3 rfl rfl (yv_lss rfl rfl) ?_
  refine ops_nil (thn_n ?_)
  by_cases hc4 : (i : Int) < (l.length : Int)
  ·skip
   refine cond_t rfl (dT hc4) ?_
   refine skip (thn_n (seq (block (seq ?_))))
   have hli : (nth l (i : Int)).length ≤ 1000 := hlen _ (B.nth_mem (by omega))
   refine region (oM hH3 rfl rfl (oM hH3 rfl rfl ?_))
   refine ops_y hH3 rfl rfl (yv_index T.sl56 rfl rfl (h0.now hH3 (n := 1) rfl).is (by omega)) ?_
   refine ops_y hH3 rfl rfl (yv_load T.one9 rfl (fun _ hw => Rd.at (h0.now hw (n := 1) rfl) (i := (i : Int)) (by omega) (j := 0) rfl)) ?_
   refine op_fnV rfl rfl rfl hH3 (c69 (l := (nth l (i : Int))) (by first | omega | exact Nat.le_trans hli (by decide))) (fun w5 hH6 => ?_)
   refine oA hH6 rfl rfl (ops_nil (thn_n (seq (seq (region (oA hH6 rfl rfl (ops_nil (thn_n (block ?_)))))))))
   refine loop (S := Nat) (fun j => [(6, (.int .i64 (j : Int))), (0, v), (3, v_3), (4, (.int .i64 (i : Int))), (5, (.int .u64 ((B.sm (nth l (i : Int))).toNat : Int)))]) (fun j w1 => Heap [ow lo_3 hi_3 32 1 encW v_3 ((l.take i).map B.sm), base w] w1 ∧ j ≤ i ∧ ∀ j2 : Nat, j2 < j → ¬ (B.sm (nth l (j2 : Int)) = B.sm (nth l (i : Int)) ∧ ¬ nth l (j2 : Int) = nth l (i : Int))) (fun j => i - j) (0) (uC rfl (uC rfl (uC rfl (uC rfl (uC rfl (Sub.nil _)))))) ?_ ?_
   ·exact ⟨hH6, by omega, fun j2 h => by omega⟩
   ·rintro j w7 ⟨hH8, hj, hal2⟩
    show Holds _ _ _ _ _ [(6, (.int .i64 (j : Int))), (0, v), (3, v_3), (4, (.int .i64 (i : Int))), (5, (.int .u64 ((B.sm (nth l (i : Int))).toNat : Int)))] _ _
    have hnm : j < i → nth ((l.take i).map B.sm) (j : Int) = B.sm (nth l (j : Int)) := fun h => B.nth_map_sm h (by omega)
    refine seq (seq (region (oM hH8 rfl rfl (oM hH8 rfl rfl ?_))))
    refine ops_y hH8 rfl rfl (yv_lss rfl rfl) ?_
    refine ops_nil (thn_n ?_)
    by_cases hc9 : (j : Int) < (i : Int)
    ·skip
     refine cond_t rfl (dT hc9) ?_
     refine skip (thn_n (seq (block (seq ?_))))
     refine region_draw (fun w' => Heap [ow lo_3 hi_3 32 1 encW v_3 ((l.take i).map B.sm), base w] w') T.mixed (fun w10 hr11 => ?_)
     have hH12 := hH8.redrawn hr11
     refine any_takes [0, 1, 2, 3, 4, 5, 6] (by kernel_rfl) hH12 _ _ _ (by kernel_rfl) ?_
     refine qM rfl rfl rfl (qM rfl rfl rfl ?_)
     refine qs_y rfl rfl (yv_index T.sl39 rfl rfl (Heap.rdw T.el39_encW hH12 (n := 0) rfl).is (by omega)) ?_
     refine qs_y rfl rfl (yv_load T.one32 rfl (fun _ hw => Rd.at (Heap.rdw T.el39_encW hw (n := 0) rfl) (i := (j : Int)) (by omega) (j := 0) rfl)) ?_
     refine qM rfl rfl rfl ?_
     refine qs_y rfl rfl (yv_eql rfl rfl) ?_
     refine qM rfl rfl rfl (qs_nil ?_)
     by_cases hc13 : ((nth ((l.take i).map B.sm) (j : Int)).toNat : Int) = ((B.sm (nth l (i : Int))).toNat : Int)
     ·skip
      refine any_takes [7, 8, 9, 10, 11, 12, 13, 14, 15, 16] (by kernel_rfl) hH12 _ _ _ (by kernel_rfl) ?_
      refine qW rfl rfl rfl (dT hc13) rfl rfl ?_
      refine qW rfl rfl rfl (dT hc13) rfl rfl ?_
      refine qs_yes rfl rfl rfl (dT hc13) rfl (yv_index T.sl56 rfl rfl (h0.now hH12 (n := 1) rfl).is (by omega)) ?_
      refine qs_yes rfl rfl rfl (dT hc13) rfl (yv_load T.one9 rfl (fun _ hw => Rd.at (h0.now hw (n := 1) rfl) (i := (j : Int)) (by omega) (j := 0) rfl)) ?_
      refine qW rfl rfl rfl (dT hc13) rfl rfl ?_
      refine qW rfl rfl rfl (dT hc13) rfl rfl ?_
      refine qs_yes rfl rfl rfl (dT hc13) rfl (yv_index T.sl56 rfl rfl (h0.now hH12 (n := 1) rfl).is (by omega)) ?_
      refine qs_yes rfl rfl rfl (dT hc13) rfl (yv_load T.one9 rfl (fun _ hw => Rd.at (h0.now hw (n := 1) rfl) (i := (i : Int)) (by omega) (j := 0) rfl)) ?_
      refine qs_yes rfl rfl rfl (dT hc13) rfl (yv_neqS rfl rfl) ?_
      refine qs_y rfl rfl (yv_pick_t rfl (dT hc13) rfl) ?_
      refine qs_nil ?_
      refine any_done (by kernel_rfl) ?_
      refine thn_n ?_
      by_cases hc14 : (nth l (j : Int)) = (nth l (i : Int))
      ·skip
       refine cond_f rfl (not_decide_n hc14) ?_
       refine skip (blk_n (thn_n ?_))
       have hno : ¬ (B.sm (nth l (j : Int)) = B.sm (nth l (i : Int)) ∧ ¬ nth l (j : Int) = nth l (i : Int)) := by rw [← hnm (by omega)]; first | exact fun h => h.2 ‹_› | exact fun h => word_ne ‹_› h.1
       refine region (oM hH12 rfl rfl ?_)
       refine ops_y hH12 rfl rfl (yv_add rfl rfl (by omega)) ?_
       refine oA hH12 rfl rfl (ops_nil ?_)
       refine lp_n (j + 1) (uC rfl (uC rfl (uC rfl (uC rfl (uC rfl (Sub.nil _)))))) ?_ ?_
       ·exact ⟨hH12, by omega, B.all_snoc hal2 hno⟩
       ·first | (dsimp only; omega) | (show _ < _; omega)
      ·skip
       refine cond_t rfl (not_decide_t hc14) ?_
       refine seq ?_
       have hnj := hnm (by omega)
       have hco : B.coll l := ⟨i, by omega, j, by omega, by rw [← hnj]; exact word_eq ‹_›, ‹_›⟩
       refine region (oA hH12 rfl rfl (ops_nil (thn_n (ret (blk_r (thn_r (lp_r (blk_r (thn_r ?_)))))))))
       refine blk_r (thn_r (lp_r (blk_r (thn_r ?_))))
       have hH15 := (hH12.sub (sC sR))
       refine fin hH15 (fun w' hf => (res1 rfl (show RV _ _ _ (.tmp 2) _ from rfl))) (fun w' hf => ?_)
       first | exact congrArg Value.bool (dT hco).symm | exact congrArg Value.bool (dF hnc).symm
     ·skip
      refine any_takes [7, 8, 9, 10, 11, 12, 13, 14, 15, 16] (by kernel_rfl) hH12 _ _ _ (by kernel_rfl) ?_
      refine qs_no rfl rfl rfl (dF hc13) rfl ?_
      refine qs_no rfl rfl rfl (dF hc13) rfl ?_
      refine qs_no rfl rfl rfl (dF hc13) rfl ?_
      refine qs_no rfl rfl rfl (dF hc13) rfl ?_
      refine qs_no rfl rfl rfl (dF hc13) rfl ?_
      refine qs_no rfl rfl rfl (dF hc13) rfl ?_
      refine qs_no rfl rfl rfl (dF hc13) rfl ?_
      refine qs_no rfl rfl rfl (dF hc13) rfl ?_
      refine qs_no rfl rfl rfl (dF hc13) rfl ?_
      refine qs_y rfl rfl (yv_pick_f rfl (dF hc13) rfl) ?_
      refine qs_nil ?_
      refine any_done (by kernel_rfl) ?_
      refine thn_n ?_
      refine cond_f rfl rfl ?_
      refine skip (blk_n (thn_n ?_))
      have hno : ¬ (B.sm (nth l (j : Int)) = B.sm (nth l (i : Int)) ∧ ¬ nth l (j : Int) = nth l (i : Int)) := by rw [← hnm (by omega)]; first | exact fun h => h.2 ‹_› | exact fun h => word_ne ‹_› h.1
      refine region (oM hH12 rfl rfl ?_)
      refine ops_y hH12 rfl rfl (yv_add rfl rfl (by omega)) ?_
      refine oA hH12 rfl rfl (ops_nil ?_)
      refine lp_n (j + 1) (uC rfl (uC rfl (uC rfl (uC rfl (uC rfl (Sub.nil _)))))) ?_ ?_
      ·exact ⟨hH12, by omega, B.all_snoc hal2 hno⟩
      ·first | (dsimp only; omega) | (show _ < _; omega)
    ·skip
     refine cond_f rfl (dF hc9) ?_
     refine exit (thn_x (lp_x (blk_here (thn_n (region (oM hH8 rfl rfl (oM hH8 rfl rfl ?_)))))))
     refine op_lit (us := [(0, (.int .u64 ((B.sm (nth l (i : Int))).toNat : Int)))]) T.el39_encW [B.sm (nth l (i : Int))] rfl (by decide) rfl (fun a ha => by simp [ha.ev (show ev _ (.tmp 41) = some _ from rfl)]) (fun w => by kernel_rfl) hH8 (fun u16 lo18 hi19 w17 hH20 => ?_)
     refine op_append (n := 1) T.el39_encW rfl rfl rfl hH20 rfl (Heap.rdw T.el39_encW hH20 (n := 0) rfl) (by first | omega | (simp only [List.length_append, List.length_cons, List.length_nil]; omega)) (fun u21 lo23 hi24 w22 hH25 => ?_)
     refine oA hH25 rfl rfl (ops_nil (blk_n (thn_n (region (oM hH25 rfl rfl ?_)))))
     refine ops_y hH25 rfl rfl (yv_add rfl rfl (by omega)) ?_
     refine oA hH25 rfl rfl (ops_nil ?_)
     have hH26 := (hH25.sub (sC sR))
     refine lp_n (i + 1, u21, lo23, hi24) (uC rfl (uC rfl (uC rfl (Sub.nil _)))) ?_ ?_
     ·exact ⟨(Heap.recast (n := 0) hH26 rfl (B.map_sm_succ (by omega))), by omega, B.all_snoc hall (fun j2 hj2 => hal2 j2 (by omega))⟩
     ·first | (dsimp only; omega) | (show _ < _; omega)
  ·skip
   refine cond_f rfl (dF hc4) ?_
   refine exit (thn_x (lp_x (blk_here (thn_n (seq ?_)))))
   have hnc : ¬ B.coll l := fun h => by obtain ⟨i2, h1, j2, h2, h3, h4⟩ := h; exact hall i2 (by omega) j2 h2 ⟨h3, h4⟩
   refine region (oA hH3 rfl rfl (ops_nil (thn_n (ret ?_))))
   have hH27 := (hH3.sub (sC sR))
   refine fin hH27 (fun w' hf => (res1 rfl (show RV _ _ _ (.tmp 2) _ from rfl))) (fun w' hf => ?_)
   first | exact congrArg Value.bool (dT hco).symm | exact congrArg Value.bool (dF hnc).symm
theorem B.strs_len1 : ∀ (n : Nat) (l : List En), l.length = n → 1 ≤ n → (B.strs l).length + 1 ≤ 2 * n := by
 intro n
 induction n using Nat.strongRecOn with
 | _ n ih =>
  intro l hl hn
  by_cases h1 : n = 1
  ·rw [B.strs_one (by omega)]; simp; omega
  ·have hh := B.half_lt (n := n) (by omega)
   rw [B.strs_two (by omega), hl]
   have e1 := ih (B.half n) (by omega) (l.take (B.half n)) (by rw [List.length_take]; omega) (by omega)
   have e2 := ih (n - B.half n) (by omega) (l.drop (B.half n)) (by rw [List.length_drop]; omega) (by omega)
   simp only [List.length_append, List.length_cons, List.length_nil]
   omega
theorem B.strs_len (n : Nat) (l : List En) (hl : l.length = n) : (B.strs l).length ≤ 2 * n + 1 := by
 by_cases h0 : n = 0
 ·rw [B.strs_nil (by omega)]; simp
 ·have := B.strs_len1 n l hl (by omega); omega
theorem B.strs_each : ∀ (n : Nat) (l : List En), l.length = n → B.InR l → ∀ x ∈ B.strs l, x.length ≤ 1000 := by
 intro n
 induction n using Nat.strongRecOn with
 | _ n ih =>
  intro l hl hin x hx
  by_cases h0 : n = 0
  ·rw [B.strs_nil (by omega)] at hx; rw [List.mem_singleton] at hx; subst hx; simp
  by_cases h1 : n = 1
  ·rw [B.strs_one (by omega)] at hx; rw [List.mem_singleton] at hx; subst hx
   have := B.leaf_len (B.text_len (hin 0 (by omega)))
   exact Nat.le_trans this (by decide)
  ·have hh := B.half_lt (n := n) (by omega)
   rw [B.strs_two (by omega), hl] at hx
   rcases List.mem_append.1 hx with hx | hx
   ·rcases List.mem_append.1 hx with hx | hx
    ·exact ih (B.half n) (by omega) _ (by rw [List.length_take]; omega) (B.inR_take hin _) x hx
    ·exact ih (n - B.half n) (by omega) _ (by rw [List.length_drop]; omega) (B.inR_drop hin _) x hx
   ·rw [List.mem_singleton] at hx; subst hx; rw [B.both_len]; omega
theorem c48r {v : Value} {l : List En} {w : World} (h0 : Rd encE 5 v l w) (hn : l.length ≤ 64) (hin : B.InR l) (ih : ∀ {v1 : Value} {l1 : List En} {w1 : World}, Rd encE 5 v1 l1 w1 → l1.length < l.length → l1.length ≤ 64 → B.InR l1 → Fn Tryz.prog 48 #[v1] w1 (fun u w => Own 9 1 encT u (B.strs l1) w))  :
  Fn Tryz.prog 48 [v].toArray w (fun u w => Own 9 1 encT u (B.strs l) w) := by
 refine fn_of' (args := [v]) Tryz.func48 rfl (ent Tryz.func48 (by kernel_rfl) rfl) rfl rfl (fun hH => ?_)
 refine seq (region (oA hH rfl rfl (ops_nil (thn_n (seq (seq (region (oM hH rfl rfl ?_))))))))
 refine ops_y hH rfl rfl (yv_len T.sl22 rfl (h0.now hH (n := 0) rfl).is) ?_
 refine ops_y hH rfl rfl (yv_eql rfl rfl) ?_
 refine ops_nil (thn_n ?_)
 by_cases hc1 : (l.length : Int) = 0
 ·skip
  refine cond_t rfl (dT hc1) ?_
  refine seq (region ?_)
  refine op_lit (us := [(0, (str ([] : List UInt8)))]) T.el56_encT [([] : List UInt8)] rfl (by decide) rfl (fun a ha => by simp [ha.ev (show ev _ (.const (str ([] : List UInt8))) = some _ from rfl)] <;> rfl) (fun w => by kernel_rfl) hH (fun u2 lo4 hi5 w3 hH6 => ?_)
  refine oA hH6 rfl rfl (ops_nil (thn_n (ret (thn_r ?_))))
  refine fin (hH6.front (n := 1) rfl) (fun w' hf => (res1 rfl (show RV _ _ _ (.tmp 2) _ from rfl))) (fun w' hf => ?_)
  first | (rw [B.strs_nil (by omega)]; exact Heap.own hf (n := 0) rfl) | (rw [B.strs_one (by omega)]; exact Heap.own hf (n := 0) rfl) | (rw [B.strs_two (by omega)]; exact Heap.own hf (n := 0) rfl)
 ·skip
  refine cond_f rfl (dF hc1) ?_
  refine skip (thn_n (seq (seq ?_)))
  have hne : ¬ l.length = 0 := by omega
  refine region (oM hH rfl rfl ?_)
  refine ops_y hH rfl rfl (yv_len T.sl22 rfl (h0.now hH (n := 0) rfl).is) ?_
  refine ops_y hH rfl rfl (yv_eql rfl rfl) ?_
  refine ops_nil (thn_n ?_)
  by_cases hc7 : (l.length : Int) = 1
  ·skip
   refine cond_t rfl (dT hc7) ?_
   refine seq ?_
   have hl1 : l.length = 1 := by omega
   have he0 := hin 0 (by omega)
   refine region (oM hH rfl rfl ?_)
   refine ops_y hH rfl rfl (yv_index T.sl22 rfl rfl (h0.now hH (n := 0) rfl).is (by omega)) ?_
   refine ops_y hH rfl rfl (yv_loadA (cs := [(.int .i64 ((nth l 0).n)), (.int .i64 ((nth l 0).d)), (.int .i64 ((nth l 0).f)), (.int .i64 ((nth l 0).t)), (.int .i64 ((nth l 0).a))]) T.agg38 rfl rfl (fun _ hw => Rd.atA (h0.now hw (n := 0) rfl) (i := 0) (by omega))) ?_
   refine op_fnV rfl rfl rfl hH (c95 (e := (nth l 0)) he0) (fun w8 hH9 => ?_)
   refine op_lit (us := [(0, (str (B.leaf (nth l 0))))]) T.el56_encT [(B.leaf (nth l 0))] rfl (by decide) rfl (fun a ha => by simp [ha.ev (show ev _ (.tmp 15) = some _ from rfl)] <;> rfl) (fun w => by kernel_rfl) hH9 (fun u10 lo12 hi13 w11 hH14 => ?_)
   refine oA hH14 rfl rfl (ops_nil (thn_n (ret (thn_r ?_))))
   refine fin (hH14.front (n := 1) rfl) (fun w' hf => (res1 rfl (show RV _ _ _ (.tmp 2) _ from rfl))) (fun w' hf => ?_)
   first | (rw [B.strs_nil (by omega)]; exact Heap.own hf (n := 0) rfl) | (rw [B.strs_one (by omega)]; exact Heap.own hf (n := 0) rfl) | (rw [B.strs_two (by omega)]; exact Heap.own hf (n := 0) rfl)
  ·skip
   refine cond_f rfl (dF hc7) ?_
   refine skip (thn_n (seq ?_))
   have hl2 : 2 ≤ l.length := by omega
   have hbh := B.half_lt hl2
   refine region (oM hH rfl rfl ?_)
   refine ops_y hH rfl rfl (yv_len T.sl22 rfl (h0.now hH (n := 0) rfl).is) ?_
   refine op_fnV rfl rfl rfl hH (c96 (by omega)) (fun w15 hH16 => ?_)
   refine oA hH16 rfl rfl (ops_nil (thn_n (seq ?_)))
   have hsl := B.strs_len _ (l.take (B.half l.length : Int).toNat) rfl
   have hsd := B.strs_len _ (l.drop (B.half l.length : Int).toNat) rfl
   have htk : (l.take (B.half l.length : Int).toNat).length ≤ 64 := by rw [List.length_take]; omega
   have htd : (l.drop (B.half l.length : Int).toNat).length ≤ 64 := by rw [List.length_drop]; omega
   refine region_drawY (fun w' => Heap [base w] w') [8] T.mixed (fun w17 hr18 => ?_)
   have hH19 := hH16.redrawn hr18
   refine any_takesT [0, 1, 2, 4, 5, 6] (by kernel_rfl)  _ _ _ (by kernel_rfl) ?_
   refine qM rfl rfl rfl (qM rfl rfl rfl ?_)
   refine qs_y rfl rfl (yv_cut_hi T.sl22 rfl rfl (h0.now hH19 (n := 0) rfl).is (by omega)) ?_
   refine qM rfl rfl rfl (qM rfl rfl rfl ?_)
   refine qs_y rfl rfl (yv_cut_lo T.sl22 rfl rfl (h0.now hH19 (n := 0) rfl).is (by omega)) ?_
   refine qs_nil ?_
   refine any_allY [3] (by kernel_rfl) rfl ?_
   refine ⟨⟨_, rfl, ?_⟩, trivial⟩
   ·skip
    refine op_fn rfl rfl rfl hH19 (ih (Rd.upto (h0.now hH19 (n := 0) rfl) (hi := (B.half l.length : Int).toNat) (by omega)) (by first | (rw [List.length_take]; omega) | (rw [List.length_drop]; omega)) (by first | (rw [List.length_take]; omega) | (rw [List.length_drop]; omega)) (by first | exact B.inR_take hin _ | exact B.inR_drop hin _)) (fun u22 w20 lo23 hi24 hH21 hv25 => ?_)
    have hH26 := Heap.toOw hH21 (n := 0) rfl
    refine ops_nil ?_
    refine ⟨fun _ _ => (hH26.sub (sC sR)), ?_⟩
    refine any_allY [7] (by kernel_rfl) rfl ?_
    refine ⟨⟨_, rfl, ?_⟩, trivial⟩
    ·skip
     refine op_fn rfl rfl rfl hH26 (ih (Rd.from (h0.now hH26 (n := 1) rfl) (lo := (B.half l.length : Int).toNat) (by omega)) (by first | (rw [List.length_take]; omega) | (rw [List.length_drop]; omega)) (by first | (rw [List.length_take]; omega) | (rw [List.length_drop]; omega)) (by first | exact B.inR_take hin _ | exact B.inR_drop hin _)) (fun u29 w27 lo30 hi31 hH28 hv32 => ?_)
     have hH33 := Heap.toOw hH28 (n := 0) rfl
     refine ops_nil ?_
     refine ⟨fun _ _ => (hH33.sub (sC (sC sR))), ?_⟩
     refine any_allY [8] (by kernel_rfl) rfl ?_
     refine ⟨⟨_, rfl, ?_⟩, trivial⟩
     ·skip
      refine op_append (n := 1) T.el56_encT rfl rfl rfl hH33 rfl (Heap.rdw T.el56_encT hH33 (n := 0) rfl) (by first | omega | (simp only [List.length_append, List.length_cons, List.length_nil]; omega)) (fun u34 lo36 hi37 w35 hH38 => ?_)
      refine ops_nil ?_
      refine ⟨(fun h => by cases h), ?_⟩
      refine any_takesT [9] (by kernel_rfl)  _ _ _ (by kernel_rfl) ?_
      refine qs_y rfl rfl (yv_assign rfl) (qs_nil ?_)
      refine any_doneY (by kernel_rfl) ?_
      refine thn_n (seq ?_)
      refine region_drawY (fun w' => Heap [base w] w') [11] T.mixed (fun w39 hr40 => ?_)
      have hH41 := hH38.redrawn hr40
      refine any_takesT [0, 1, 2, 3, 5, 6, 7] (by kernel_rfl)  _ _ _ (by kernel_rfl) ?_
      refine qM rfl rfl rfl (qM rfl rfl rfl (qM rfl rfl rfl ?_))
      refine qs_y rfl rfl (yv_cut_hi T.sl22 rfl rfl (h0.now hH41 (n := 2) rfl).is (by omega)) ?_
      refine qM rfl rfl rfl (qM rfl rfl rfl ?_)
      refine qs_y rfl rfl (yv_cut_lo T.sl22 rfl rfl (h0.now hH41 (n := 2) rfl).is (by omega)) ?_
      refine qs_nil ?_
      refine any_allY [4] (by kernel_rfl) rfl ?_
      refine ⟨⟨_, rfl, ?_⟩, trivial⟩
      ·skip
       refine op_fnV rfl rfl rfl hH41 (c44 (Rd.upto (h0.now hH41 (n := 2) rfl) (hi := (B.half l.length : Int).toNat) (by omega)) (by first | (rw [List.length_take]; omega) | (rw [List.length_drop]; omega)) (by first | exact B.inR_take hin _ | exact B.inR_drop hin _)) (fun w42 hH43 => ?_)
       refine ops_nil ?_
       refine ⟨fun _ _ => (hH43.sub (sC (sC sR))), ?_⟩
       refine any_allY [8] (by kernel_rfl) rfl ?_
       refine ⟨⟨_, rfl, ?_⟩, trivial⟩
       ·skip
        refine op_fnV rfl rfl rfl hH43 (c44 (Rd.from (h0.now hH43 (n := 2) rfl) (lo := (B.half l.length : Int).toNat) (by omega)) (by first | (rw [List.length_take]; omega) | (rw [List.length_drop]; omega)) (by first | exact B.inR_take hin _ | exact B.inR_drop hin _)) (fun w44 hH45 => ?_)
        refine ops_nil ?_
        refine ⟨fun _ _ => (hH45.sub (sC (sC sR))), ?_⟩
        refine any_allY [9] (by kernel_rfl) rfl ?_
        refine ⟨⟨_, rfl, ?_⟩, trivial⟩
        ·skip
         refine op_fnV rfl rfl rfl hH45 (c97 ) (fun w46 hH47 => ?_)
         refine ops_nil ?_
         refine ⟨fun _ _ => (hH47.sub (sC (sC sR))), ?_⟩
         refine any_allY [10] (by kernel_rfl) rfl ?_
         refine ⟨⟨_, rfl, ?_⟩, trivial⟩
         ·skip
          refine op_lit (us := [(0, (str (B.both (B.root (l.take (B.half l.length : Int).toNat)) (B.root (l.drop (B.half l.length : Int).toNat)))))]) T.el56_encT [(B.both (B.root (l.take (B.half l.length : Int).toNat)) (B.root (l.drop (B.half l.length : Int).toNat)))] rfl (by decide) rfl (fun a ha => by simp [ha.ev (show ev _ (.tmp 38) = some _ from rfl)] <;> rfl) (fun w => by kernel_rfl) hH47 (fun u48 lo50 hi51 w49 hH52 => ?_)
          refine ops_nil ?_
          refine ⟨fun _ _ => (hH52.sub (sC (sC (sC sR)))), ?_⟩
          refine any_allY [11] (by kernel_rfl) rfl ?_
          refine ⟨⟨_, rfl, ?_⟩, trivial⟩
          ·skip
           refine op_append (n := 2) T.el56_encT rfl rfl rfl hH52 rfl (Heap.rdw T.el56_encT hH52 (n := 0) rfl) (by first | omega | (simp only [List.length_append, List.length_cons, List.length_nil]; omega)) (fun u53 lo55 hi56 w54 hH57 => ?_)
           refine ops_nil ?_
           refine ⟨(fun h => by cases h), ?_⟩
           refine any_takesT [12] (by kernel_rfl)  _ _ _ (by kernel_rfl) ?_
           refine qs_y rfl rfl (yv_assign rfl) (qs_nil ?_)
           refine any_doneY (by kernel_rfl) ?_
           refine thn_n (ret ?_)
           have hH58 := (hH57.sub (sC (sC sR)))
           refine fin (hH58.front (n := 1) rfl) (fun w' hf => (res1 rfl (show RV _ _ _ (.tmp 2) _ from rfl))) (fun w' hf => ?_)
           first | (rw [B.strs_nil (by omega)]; exact Heap.own hf (n := 0) rfl) | (rw [B.strs_one (by omega)]; exact Heap.own hf (n := 0) rfl) | (rw [B.strs_two (by omega)]; exact Heap.own hf (n := 0) rfl)
theorem c48 {v : Value} {l : List En} {w : World} (h0 : Rd encE 5 v l w) (hn : l.length ≤ 64) (hin : B.InR l) : Fn Tryz.prog 48 #[v] w (fun u w => Own 9 1 encT u (B.strs l) w) := by
 induction hl : l.length using Nat.strongRecOn generalizing v l w with
 | _ n ih =>
  subst hl
  exact c48r h0 hn hin (fun k1 k2 k3 k4 => ih _ k2 k1 k3 k4 rfl)
end Go.Fip
namespace Go.Fip.B
open Go.Fip
theorem half_lg : ∀ k, k ≤ 5 → ∀ n, n ≤ 32 → 2 ≤ n → n ≤ 2 ^ (k + 1) → half n ≤ 2 ^ k ∧ n - half n ≤ 2 ^ k := by decide
theorem hv_lg : ∀ (k n i : Nat), k ≤ 5 → n ≤ 2 ^ k → (hv i n).length ≤ k := by
  intro k
  induction k with
  | zero =>
    intro n i _ h
    rw [hv_done (by simpa using h)]; simp
  | succ k ih =>
    intro n i hk h
    by_cases h1 : n ≤ 1
    · rw [hv_done h1]; simp
    · have h32 : n ≤ 32 := Nat.le_trans h (Nat.le_trans (Nat.pow_le_pow_right (by decide) hk) (by decide))
      obtain ⟨ha, hb⟩ := half_lg k (by omega) n h32 (by omega) h
      rw [hv_cons (by omega), List.length_cons]
      split
      · have := ih (half n) i (by omega) ha; omega
      · have := ih (n - half n) (i - half n) (by omega) hb; omega
theorem path5 {l : List En} {i : Nat} (h : l.length ≤ 24) : (path l i).length ≤ 5 := by
  rw [path_hv]; exact hv_lg 5 _ _ (Nat.le_refl _) (by omega)
theorem cp_zero {e : En} {i n : Nat} {p : List UInt64} {r : UInt64} (hi : i < n) (hn : n ≤ 24) (h : cp e (i : Int) (n : Int) p r = 0) : ckE e = 0 ∧ (st e i n p).2 = true ∧ sm (lastS (st e i n p).1) = r := by
  by_cases h1 : ckE e = 0
  · by_cases h2 : (st e (i : Int).toNat (n : Int).toNat p).2 = true ∧ sm (lastS (st e (i : Int).toNat (n : Int).toNat p).1) = r
    · exact ⟨h1, by simpa only [Int.toNat_natCast] using h2⟩
    · rw [cp4 h1 (by omega) (by omega) h2] at h; omega
  · rw [cp1 h1] at h; exact absurd h h1
theorem proved_coll {l : List En} {e : En} {i : Nat} {p : List UInt64} (h : ck l = 0) (hi : i < l.length) (hz : cp e (i : Int) (l.length : Int) p (root l) = 0) (hne : ¬ e = nth l (i : Int)) : coll (strs l ++ (st e i l.length p).1) := by
  obtain ⟨h24, hin, _⟩ := ck_iff.1 h
  obtain ⟨h1, h2, h3⟩ := cp_zero hi h24 hz
  refine Decidable.byContradiction fun hc => hne ?_
  have hinj := inj_of hc
  exact st_eq hinj (ckE_iff.1 h1).1 l.length i p l rfl hi hin (fun x hx => List.mem_append_left _ hx) (fun x hx => List.mem_append_right _ hx) h2 h3
end Go.Fip.B
namespace Go.Fip
open Go.Proofs Go.RowKit
theorem B.ss_len {l : List En} {e : En} {i n : Nat} {q : List UInt64} (hl : l.length ≤ 24) (hq : q.length ≤ 1000) (hn : 1 ≤ n) (hok : (B.st e i n q).2 = true) : (B.strs l ++ (B.st e i n q).1).length ≤ 1000000 := by
 have h1 := B.strs_len l.length l rfl
 have h2 := ((B.st_ok (e := e) n i q hn).2 hok).2
 rw [List.length_append]; omega
theorem B.ss_each {l : List En} {e : En} {i n : Nat} {q : List UInt64} (hin : B.InR l) (he : B.isEn e) (hn : 1 ≤ n) : ∀ x ∈ B.strs l ++ (B.st e i n q).1, x.length ≤ 1000 := fun x hx => by
 rcases List.mem_append.1 hx with hx | hx
 ·exact B.strs_each l.length l rfl hin x hx
 ·exact Nat.le_trans (B.st_len (B.leaf_len (B.text_len he)) n i q hn x hx) (by decide)
end Go.Fip
namespace Go.Fip
open Go.Proofs Go.RowKit
theorem B.cp_len {l : List En} {i : Nat} {q : List UInt64} (hl : l.length ≤ 24) (hi : i < l.length) (h : B.cp (nth l (i : Int)) (i : Int) (l.length : Int) q (B.root l) = 0) : q.length = (B.path l i).length := by
 have h1 := (B.cp_zero hi hl h).2.1
 rw [B.path_hv]
 exact (B.st_ok (e := nth l (i : Int)) l.length i q (by omega)).1.1 h1
theorem B.nth_ne {l : List En} (hd : B.NoDup l) {i j : Nat} (hi : i < l.length) (hj : j < l.length) (h : ¬ (j : Int) = (i : Int)) : ¬ nth l (i : Int) = nth l (j : Int) := fun e => by
 have en : (nth l (i : Int)).n = (nth l (j : Int)).n := by rw [e]
 rcases Nat.lt_trichotomy i j with h1 | h1 | h1
 ·exact hd j hj i h1 en
 ·exact h (by omega)
 ·exact hd i hi j h1 en.symm
theorem c9 {v : Value} {l : List En} {w : World} (h0 : Rd encE 5 v l w) (hG : Gl w) {a c : Int} (ha : 0 ≤ a ∧ a ≤ 255) (hc : 0 ≤ c ∧ c ≤ 255)  :
  Fn Tryz.prog 9 [(.agg #[v]), (.int .u8 a), (.int .u8 c)].toArray w (fun u _ => u = .bool true) := by
 refine fn_of' (args := [(.agg #[v]), (.int .u8 a), (.int .u8 c)]) Tryz.func9 rfl (ent Tryz.func9 (by kernel_rfl) rfl) rfl rfl (fun hH => ?_)
 refine seq (region ?_)
 refine op_box (us := [v]) rfl rfl rfl hH (fun b1 w2 hH3 => ?_)
 refine oA hH3 rfl rfl (ops_nil (thn_n (seq (seq (region ?_)))))
 refine ops_y hH3 rfl rfl (yv_loadA (cs := [v]) T.agg24 rfl rfl (fun _ hw => Heap.cellsw hw (n := 0) rfl (k := 0) rfl)) ?_
 refine op_fnV rfl rfl rfl hH3 (c43 (h0.now hH3 (n := 1) rfl)) (fun w4 hH5 => ?_)
 refine ops_y hH5 rfl rfl (yv_not rfl) ?_
 refine oM hH5 rfl rfl ?_
 by_cases hc6 : B.ck l = 0
 ·skip
  refine guard_yes rfl rfl (not_decide_n hc6) ?_
  refine ops_y hH5 rfl rfl (yv_field T.f24_0 rfl) ?_
  refine guard_yes rfl rfl (not_decide_n hc6) ?_
  refine ops_y hH5 rfl rfl (yv_load T.one22 rfl (fun _ hw => Heap.cellw hw (n := 0) rfl rfl)) ?_
  refine guard_yes rfl rfl (not_decide_n hc6) ?_
  refine ops_y hH5 rfl rfl (yv_len T.sl22 rfl (h0.now hH5 (n := 1) rfl).is) ?_
  refine guard_yes rfl rfl (not_decide_n hc6) ?_
  refine ops_y hH5 rfl rfl (yv_eql rfl rfl) ?_
  refine ops_y hH5 rfl rfl (yv_pick_f rfl (not_decide_n hc6) rfl) ?_
  refine ops_nil (thn_n ?_)
  by_cases hc7 : (l.length : Int) = 0
  ·skip
   refine cond_t rfl (dT hc7) ?_
   refine seq (region ?_)
   refine op_fnV rfl rfl rfl hH5 (c18 (hG.now hH5 (n := 1) rfl)) (fun w8 hH9 => ?_)
   refine oA hH9 rfl rfl (ops_nil (thn_n (ret (thn_r ?_))))
   have hH10 := (hH9.sub (sC sR))
   refine fin hH10 (fun w' hf => (res1 rfl (show RV _ _ _ (.tmp 6) _ from rfl))) (fun w' hf => ?_)
   first | rfl | exact hbad.elim | (exfalso; exact hnz (by omega) (by omega))
  ·skip
   refine cond_f rfl (dF hc7) ?_
   refine skip (thn_n (seq ?_))
   have hc0 : B.ck l = 0 := by first | assumption | exact Decidable.not_not.1 ‹_›
   have hbk := B.ck_iff.1 hc0
   have hin0 := hbk.2.1
   have hl24 := hbk.1
   have hl1 : 1 ≤ l.length := by omega
   have hro := B.ro2 hc0
   obtain ⟨i, hi⟩ : ∃ i : Nat, (i : Int) = a % (l.length : Int) := ⟨(a % (l.length : Int)).toNat, Int.toNat_of_nonneg (Int.emod_nonneg _ (by omega))⟩
   have hil : i < l.length := by have := Int.emod_lt_of_pos a (show (0 : Int) < (l.length : Int) by omega); omega
   obtain ⟨j, hj⟩ : ∃ j : Nat, (j : Int) = c % (l.length : Int) := ⟨(c % (l.length : Int)).toNat, Int.toNat_of_nonneg (Int.emod_nonneg _ (by omega))⟩
   have hjl : j < l.length := by have := Int.emod_lt_of_pos c (show (0 : Int) < (l.length : Int) by omega); omega
   have hpe : B.pathR l (i : Int) = (B.path l i, 0) := B.pa3 (l := l) (i := (i : Int)) hc0 (by omega)
   have hpl := B.path5 (l := l) (i := i) hl24
   have hee : B.isEn (nth l (i : Int)) := hin0 i hil
   have hsl := B.strs_len l.length l rfl
   have hnd := hbk.2.2.2.1
   refine region ?_
   refine ops_y hH5 rfl rfl (yv_field T.f24_0 rfl) ?_
   refine ops_y hH5 rfl rfl (yv_load T.one22 rfl (fun _ hw => Heap.cellw hw (n := 0) rfl rfl)) ?_
   refine ops_y hH5 rfl rfl (yv_len T.sl22 rfl (h0.now hH5 (n := 1) rfl).is) ?_
   refine oA hH5 rfl rfl (ops_nil (thn_n (seq ?_)))
   refine region_draw (fun w' => Heap [bx b1 24 [v], base w] w') T.mixed (fun w11 hr12 => ?_)
   have hH13 := hH5.redrawn hr12
   refine any_takes [0, 1, 2, 3, 4, 5, 6, 7, 8, 9] (by kernel_rfl) hH13 _ _ _ (by kernel_rfl) ?_
   refine qM rfl rfl rfl ?_
   refine qs_y rfl rfl (yv_conv Tryz.underlying5 Tryz.underlying3 rfl (wrap_i64 (by omega))) ?_
   refine qM rfl rfl rfl ?_
   refine qs_y rfl rfl (yv_cast (show _ = (i : Int) from hi.symm) (yv_rem rfl rfl (by omega) (by omega))) ?_
   refine qM rfl rfl rfl ?_
   refine qs_y rfl rfl (yv_conv Tryz.underlying5 Tryz.underlying3 rfl (wrap_i64 (by omega))) ?_
   refine qM rfl rfl rfl ?_
   refine qs_y rfl rfl (yv_cast (show _ = (j : Int) from hj.symm) (yv_rem rfl rfl (by omega) (by omega))) ?_
   refine qs_y rfl rfl (yv_assign rfl) (qs_y rfl rfl (yv_assign rfl) (qs_nil ?_))
   refine any_done (by kernel_rfl) ?_
   refine thn_n (seq (region ?_))
   refine ops_y hH13 rfl rfl (yv_loadA (cs := [v]) T.agg24 rfl rfl (fun _ hw => Heap.cellsw hw (n := 0) rfl (k := 0) rfl)) ?_
   refine op_fnV rfl rfl rfl hH13 ((by have h := c25  (h0.now hH13 (n := 1) rfl) (by omega) (hG.now hH13 (n := 1) rfl); simp only [hro] at h; exact h)) (fun w14 hH15 => ?_)
   refine oM hH15 rfl rfl (ops_y hH15 rfl rfl (yv_extract rfl rfl) (ops_y hH15 rfl rfl (yv_extract rfl rfl) (oA hH15 rfl rfl (oA hH15 rfl rfl (ops_nil (thn_n (seq (region ?_))))))))
   refine ops_y hH15 rfl rfl (yv_loadA (cs := [v]) T.agg24 rfl rfl (fun _ hw => Heap.cellsw hw (n := 0) rfl (k := 0) rfl)) ?_
   refine oM hH15 rfl rfl ?_
   refine op_fn rfl rfl rfl hH15 ((by have h := c27 (i := (i : Int)) (h0.now hH15 (n := 1) rfl) (by omega) (hG.now hH15 (n := 1) rfl); simp only [hpe] at h; exact h)) (fun u18 w16 lo19 hi20 hH17 hv21 => ?_)
   obtain ⟨p23, hu, -⟩ := hv21
   subst hu
   have hH22 := Heap.tup2 hH17 (n := 0) rfl
   refine oM hH22 rfl rfl (ops_y hH22 rfl rfl (yv_extract rfl rfl) (ops_y hH22 rfl rfl (yv_extract rfl rfl) (oA hH22 rfl rfl (oA hH22 rfl rfl (ops_nil (thn_n (seq (seq (region ?_)))))))))
   refine oM hH22 rfl rfl ?_
   refine ops_y hH22 rfl rfl (yv_neq rfl rfl) ?_
   refine oM hH22 rfl rfl (guard_yes rfl rfl rfl (oM hH22 rfl rfl (guard_yes rfl rfl rfl ?_)))
   refine ops_y hH22 rfl rfl (yv_neq rfl rfl) ?_
   refine ops_y hH22 rfl rfl (yv_pick_f rfl rfl rfl) ?_
   refine oM hH22 rfl rfl (guard_yes rfl rfl rfl (oM hH22 rfl rfl (guard_yes rfl rfl rfl ?_)))
   refine ops_y hH22 rfl rfl (yv_len T.sl39 rfl (Heap.rdw T.el39_encW hH22 (n := 0) rfl).is) ?_
   refine guard_yes rfl rfl rfl ?_
   refine ops_y hH22 rfl rfl (yv_gtr rfl rfl) ?_
   refine ops_y hH22 rfl rfl (yv_pick_f rfl rfl rfl) ?_
   refine ops_nil (thn_n ?_)
   by_cases hc24 : 5 < ((B.path l i).length : Int)
   ·skip
    refine cond_t rfl (dT hc24) ?_
    refine seq ?_
    have hbad : False := by omega
    refine region (oA hH22 rfl rfl (ops_nil (thn_n (ret (thn_r ?_)))))
    have hH25 := (hH22.sub (sC (sC sR)))
    refine fin hH25 (fun w' hf => (res1 rfl (show RV _ _ _ (.tmp 6) _ from rfl))) (fun w' hf => ?_)
    first | rfl | exact hbad.elim | (exfalso; exact hnz (by omega) (by omega))
   ·skip
    refine cond_f rfl (dF hc24) ?_
    refine skip (thn_n (seq (region ?_)))
    refine ops_y hH22 rfl rfl (yv_field T.f24_0 rfl) ?_
    refine ops_y hH22 rfl rfl (yv_load T.one22 rfl (fun _ hw => Heap.cellw hw (n := 1) rfl rfl)) ?_
    refine oM hH22 rfl rfl ?_
    refine ops_y hH22 rfl rfl (yv_index T.sl22 rfl rfl (h0.now hH22 (n := 2) rfl).is (by omega)) ?_
    refine ops_y hH22 rfl rfl (yv_loadA (cs := [(.int .i64 ((nth l (i : Int)).n)), (.int .i64 ((nth l (i : Int)).d)), (.int .i64 ((nth l (i : Int)).f)), (.int .i64 ((nth l (i : Int)).t)), (.int .i64 ((nth l (i : Int)).a))]) T.agg38 rfl rfl (fun _ hw => Rd.atA (h0.now hw (n := 2) rfl) (i := (i : Int)) (by omega))) ?_
    refine oM hH22 rfl rfl (oM hH22 rfl rfl (oM hH22 rfl rfl (oM hH22 rfl rfl ?_)))
    refine op_fnV rfl rfl rfl hH22 (c30 (e := (nth l (i : Int))) (i := (j : Int)) (n := (l.length : Int)) (r := B.root l) (hG.now hH22 (n := 2) rfl) (Heap.rdw T.el39_encW hH22 (n := 0) rfl) (by omega)) (fun w26 hH27 => ?_)
    refine oA hH27 rfl rfl (ops_nil (thn_n (seq (region ?_))))
    refine ops_y hH27 rfl rfl (yv_field T.f24_0 rfl) ?_
    refine ops_y hH27 rfl rfl (yv_load T.one22 rfl (fun _ hw => Heap.cellw hw (n := 1) rfl rfl)) ?_
    refine oM hH27 rfl rfl ?_
    refine ops_y hH27 rfl rfl (yv_index T.sl22 rfl rfl (h0.now hH27 (n := 2) rfl).is (by omega)) ?_
    refine ops_y hH27 rfl rfl (yv_loadA (cs := [(.int .i64 ((nth l (i : Int)).n)), (.int .i64 ((nth l (i : Int)).d)), (.int .i64 ((nth l (i : Int)).f)), (.int .i64 ((nth l (i : Int)).t)), (.int .i64 ((nth l (i : Int)).a))]) T.agg38 rfl rfl (fun _ hw => Rd.atA (h0.now hw (n := 2) rfl) (i := (i : Int)) (by omega))) ?_
    refine oM hH27 rfl rfl (oM hH27 rfl rfl (oM hH27 rfl rfl ?_))
    refine op_fn rfl rfl rfl hH27 (c46 (e := (nth l (i : Int))) (i := j) (n := l.length) (p := (B.path l i)) hee (Heap.rdw T.el39_encW hH27 (n := 0) rfl) (by omega) (by omega) (by omega)) (fun u30 w28 lo31 hi32 hH29 hv33 => ?_)
    obtain ⟨p35, hu, -⟩ := hv33
    subst hu
    have hH34 := Heap.tup2 hH29 (n := 0) rfl
    refine oM hH34 rfl rfl (ops_y hH34 rfl rfl (yv_extract rfl rfl) (ops_y hH34 rfl rfl (yv_extract rfl rfl) (oA hH34 rfl rfl (oA hH34 rfl rfl (ops_nil (thn_n (seq (seq (region ?_)))))))))
    refine oM hH34 rfl rfl ?_
    refine ops_y hH34 rfl rfl (yv_eql rfl rfl) ?_
    refine oM hH34 rfl rfl ?_
    by_cases hc36 : (B.cp (nth l (i : Int)) (j : Int) (l.length : Int) (B.path l i) (B.root l)) = 0
    ·skip
     have hcz : B.cp (nth l (i : Int)) (j : Int) (l.length : Int) (B.path l i) (B.root l) = 0 := by omega
     refine guard_yes rfl rfl (dT hc36) ?_
     refine oM hH34 rfl rfl ?_
     refine guard_yes rfl rfl (dT hc36) ?_
     refine oM hH34 rfl rfl ?_
     refine guard_yes rfl rfl (dT hc36) ?_
     refine ops_y hH34 rfl rfl (yv_neq rfl rfl) ?_
     refine ops_y hH34 rfl rfl (yv_pick_t rfl (dT hc36) rfl) ?_
     refine oM hH34 rfl rfl ?_
     by_cases hc37 : (j : Int) = (i : Int)
     ·skip
      refine guard_no rfl rfl (not_decide_n hc37) rfl ?_
      refine guard_no rfl rfl (not_decide_n hc37) rfl ?_
      refine guard_no rfl rfl (not_decide_n hc37) rfl ?_
      refine guard_none rfl rfl rfl ?_
      refine guard_none rfl rfl rfl ?_
      refine guard_none rfl rfl rfl ?_
      refine guard_none rfl rfl rfl ?_
      refine guard_none rfl rfl rfl ?_
      refine guard_none rfl rfl rfl ?_
      refine guard_none rfl rfl rfl ?_
      refine guard_no rfl rfl (not_decide_n hc37) rfl ?_
      refine ops_y hH34 rfl rfl (yv_pick_f rfl (not_decide_n hc37) rfl) ?_
      refine ops_nil (thn_n ?_)
      refine cond_f rfl rfl ?_
      refine skip (thn_n (seq ?_))
      have hpl3 : (([] : List UInt64) ++ B.path l i).length ≤ 5 := by simp; omega
      refine region ?_
      refine op_lit (us := []) T.el39_encW ([] : List UInt64) rfl (by decide) rfl (fun a ha => by simp) (fun w => by kernel_rfl) hH34 (fun u38 lo40 hi41 w39 hH42 => ?_)
      refine oM hH42 rfl rfl ?_
      refine op_append (n := 0) T.el39_encW rfl rfl rfl hH42 rfl (Heap.rdw T.el39_encW hH42 (n := 2) rfl) (by first | omega | (simp only [List.length_append, List.length_cons, List.length_nil]; omega)) (fun u43 lo45 hi46 w44 hH47 => ?_)
      refine oM hH47 rfl rfl ?_
      refine op_lit (us := [(0, (.int .u64 ((B.root l).toNat : Int)))]) T.el39_encW [B.root l] rfl (by decide) rfl (fun a ha => by simp [ha.ev (show ev _ (.tmp 106) = some _ from rfl)]) (fun w => by kernel_rfl) hH47 (fun u48 lo50 hi51 w49 hH52 => ?_)
      refine op_append (n := 1) T.el39_encW rfl rfl rfl hH52 rfl (Heap.rdw T.el39_encW hH52 (n := 0) rfl) (by first | omega | (simp only [List.length_append, List.length_cons, List.length_nil]; omega)) (fun u53 lo55 hi56 w54 hH57 => ?_)
      refine oA hH57 rfl rfl (ops_nil (thn_n (seq (seq ?_))))
      have hpl2 : (([] : List UInt64) ++ B.path l i ++ [B.root l]).length ≤ 6 := by simp; omega
      refine region ?_
      refine ops_y hH57 rfl rfl (yv_field T.f24_0 rfl) ?_
      refine ops_y hH57 rfl rfl (yv_load T.one22 rfl (fun _ hw => Heap.cellw hw (n := 4) rfl rfl)) ?_
      refine oM hH57 rfl rfl ?_
      refine ops_y hH57 rfl rfl (yv_index T.sl22 rfl rfl (h0.now hH57 (n := 5) rfl).is (by omega)) ?_
      refine ops_y hH57 rfl rfl (yv_loadA (cs := [(.int .i64 ((nth l (i : Int)).n)), (.int .i64 ((nth l (i : Int)).d)), (.int .i64 ((nth l (i : Int)).f)), (.int .i64 ((nth l (i : Int)).t)), (.int .i64 ((nth l (i : Int)).a))]) T.agg38 rfl rfl (fun _ hw => Rd.atA (h0.now hw (n := 5) rfl) (i := (i : Int)) (by omega))) ?_
      refine oM hH57 rfl rfl (oM hH57 rfl rfl (oM hH57 rfl rfl (oM hH57 rfl rfl ?_)))
      refine op_fnV rfl rfl rfl hH57 (c30 (e := (nth l (i : Int))) (i := (i : Int)) (n := (l.length : Int)) (r := B.root l) (hG.now hH57 (n := 5) rfl) (Heap.rdw T.el39_encW hH57 (n := 1) rfl) (by omega)) (fun w58 hH59 => ?_)
      refine ops_y hH59 rfl rfl (yv_eql rfl rfl) ?_
      refine ops_nil (thn_n ?_)
      by_cases hc60 : (B.cp (nth l (i : Int)) (i : Int) (l.length : Int) ((([] : List UInt64) ++ (B.path l i)) ++ [B.root l]) (B.root l)) = 0
      ·skip
       refine cond_t rfl (dT hc60) ?_
       refine seq ?_
       have hbad : False := by have h9 := B.cp_len hl24 hil ‹_›; simp at h9
       refine region (oA hH59 rfl rfl (ops_nil (thn_n (ret (thn_r ?_)))))
       have hH61 := (hH59.sub (sC (sC (sC (sC (sC sR))))))
       refine fin hH61 (fun w' hf => (res1 rfl (show RV _ _ _ (.tmp 6) _ from rfl))) (fun w' hf => ?_)
       first | rfl | exact hbad.elim | (exfalso; exact hnz (by omega) (by omega))
      ·skip
       refine cond_f rfl (dF hc60) ?_
       refine skip (thn_n (seq ?_))
       have hnz : ¬ ((B.path l i).length : Int) = 0 → ¬ B.cp (nth l (i : Int)) (i : Int) (l.length : Int) ((B.path l i).drop 1) (B.root l) = 0 := fun h1 h2 => by have h9 := B.cp_len hl24 hil h2; rw [List.length_drop] at h9; omega
       refine region_draw (fun w' => Heap [ow lo50 hi51 32 1 encW u48 [B.root l], ow lo55 hi56 32 1 encW u53 ((([] : List UInt64) ++ (B.path l i)) ++ [B.root l]), ow lo31 hi32 9 1 encT p35 ((B.st (nth l (i : Int)) j l.length (B.path l i)).1), ow lo19 hi20 32 1 encW p23 (B.path l i), bx b1 24 [v], base w] w') T.mixed (fun w62 hr63 => ?_)
       have hH64 := hH59.redrawn hr63
       refine any_takes [0, 1, 2, 3] (by kernel_rfl) hH64 _ _ _ (by kernel_rfl) ?_
       refine qM rfl rfl rfl ?_
       refine qs_y rfl rfl (yv_len T.sl39 rfl (Heap.rdw T.el39_encW hH64 (n := 3) rfl).is) ?_
       refine qs_y rfl rfl (yv_eql rfl rfl) ?_
       refine qM rfl rfl rfl (qs_nil ?_)
       by_cases hc65 : ((B.path l i).length : Int) = 0
       ·skip
        refine any_takes [4, 5, 6, 7, 8, 9, 10, 11, 12, 13, 14, 15, 16, 17] (by kernel_rfl) hH64 _ _ _ (by kernel_rfl) ?_
        refine qs_no rfl rfl rfl (dT hc65) rfl ?_
        refine qs_no rfl rfl rfl (dT hc65) rfl ?_
        refine qs_no rfl rfl rfl (dT hc65) rfl ?_
        refine qs_no rfl rfl rfl (dT hc65) rfl ?_
        refine qs_no rfl rfl rfl (dT hc65) rfl ?_
        refine qs_no rfl rfl rfl (dT hc65) rfl ?_
        refine qs_no rfl rfl rfl (dT hc65) rfl ?_
        refine qs_no rfl rfl rfl (dT hc65) rfl ?_
        refine qs_no rfl rfl rfl (dT hc65) rfl ?_
        refine qs_no rfl rfl rfl (dT hc65) rfl ?_
        refine qs_no rfl rfl rfl (dT hc65) rfl ?_
        refine qs_no rfl rfl rfl (dT hc65) rfl ?_
        refine qs_y rfl rfl (yv_pick_t rfl (dT hc65) rfl) ?_
        refine qM rfl rfl rfl (qs_nil ?_)
        refine any_all [18] (by kernel_rfl) rfl ?_
        refine ⟨⟨_, rfl, ?_⟩, trivial⟩
        ·skip
         refine guard_yes rfl rfl rfl ?_
         refine op_fnV rfl rfl rfl hH64 (c18 (hG.now hH64 (n := 5) rfl)) (fun w66 hH67 => ?_)
         refine ops_nil ?_
         refine ⟨hH67, ?_⟩
         refine any_takes [19, 20] (by kernel_rfl) hH67 _ _ _ (by kernel_rfl) ?_
         refine qs_y rfl rfl (yv_pick_t rfl rfl rfl) ?_
         refine qs_y rfl rfl (yv_assign rfl) (qs_nil ?_)
         refine any_done (by kernel_rfl) ?_
         refine thn_n (ret ?_)
         have hH68 := (hH67.sub (sC (sC (sC (sC (sC sR))))))
         refine fin hH68 (fun w' hf => (res1 rfl (show RV _ _ _ (.tmp 6) _ from rfl))) (fun w' hf => ?_)
         first | rfl | exact hbad.elim | (exfalso; exact hnz (by omega) (by omega))
       ·skip
        refine any_takes [4, 5, 6, 7, 8, 9, 10, 11, 12, 13] (by kernel_rfl) hH64 _ _ _ (by kernel_rfl) ?_
        refine qs_yes rfl rfl rfl (dF hc65) rfl (yv_field T.f24_0 rfl) ?_
        refine qs_yes rfl rfl rfl (dF hc65) rfl (yv_load T.one22 rfl (fun _ hw => Heap.cellw hw (n := 4) rfl rfl)) ?_
        refine qW rfl rfl rfl (dF hc65) rfl rfl ?_
        refine qs_yes rfl rfl rfl (dF hc65) rfl (yv_index T.sl22 rfl rfl (h0.now hH64 (n := 5) rfl).is (by omega)) ?_
        refine qs_yes rfl rfl rfl (dF hc65) rfl (yv_loadA (cs := [(.int .i64 ((nth l (i : Int)).n)), (.int .i64 ((nth l (i : Int)).d)), (.int .i64 ((nth l (i : Int)).f)), (.int .i64 ((nth l (i : Int)).t)), (.int .i64 ((nth l (i : Int)).a))]) T.agg38 rfl rfl (fun _ hw => Rd.atA (h0.now hw (n := 5) rfl) (i := (i : Int)) (by omega))) ?_
        refine qW rfl rfl rfl (dF hc65) rfl rfl ?_
        refine qW rfl rfl rfl (dF hc65) rfl rfl ?_
        refine qW rfl rfl rfl (dF hc65) rfl rfl ?_
        refine qs_yes rfl rfl rfl (dF hc65) rfl (yv_cut_lo T.sl39 rfl rfl (Heap.rdw T.el39_encW hH64 (n := 3) rfl).is (by omega)) ?_
        refine qW rfl rfl rfl (dF hc65) rfl rfl ?_
        refine qs_nil ?_
        refine any_all [14] (by kernel_rfl) rfl ?_
        refine ⟨⟨_, rfl, ?_⟩, trivial⟩
        ·skip
         refine guard_yes rfl rfl (dF hc65) ?_
         refine op_fnV rfl rfl rfl hH64 (c30 (e := (nth l (i : Int))) (i := (i : Int)) (n := (l.length : Int)) (r := B.root l) (hG.now hH64 (n := 5) rfl) (Rd.from (Heap.rdw T.el39_encW hH64 (n := 3) rfl) (lo := 1) (by omega)) (by rw [List.length_drop]; omega)) (fun w69 hH70 => ?_)
         refine ops_nil ?_
         refine ⟨hH70, ?_⟩
         refine any_takes [15, 16, 17] (by kernel_rfl) hH70 _ _ _ (by kernel_rfl) ?_
         refine qs_yes rfl rfl rfl (dF hc65) rfl (yv_neq rfl rfl) ?_
         refine qs_y rfl rfl (yv_pick_f rfl (dF hc65) rfl) ?_
         refine qM rfl rfl rfl (qs_nil ?_)
         by_cases hc71 : (B.cp (nth l (i : Int)) (i : Int) (l.length : Int) ((B.path l i).drop 1) (B.root l)) = 0
         ·skip
          refine any_takes [18, 19, 20] (by kernel_rfl) hH70 _ _ _ (by kernel_rfl) ?_
          refine qs_no rfl rfl rfl (not_decide_n hc71) rfl ?_
          refine qs_y rfl rfl (yv_pick_f rfl (not_decide_n hc71) rfl) ?_
          refine qs_y rfl rfl (yv_assign rfl) (qs_nil ?_)
          refine any_done (by kernel_rfl) ?_
          refine thn_n (ret ?_)
          have hH72 := (hH70.sub (sC (sC (sC (sC (sC sR))))))
          refine fin hH72 (fun w' hf => (res1 rfl (show RV _ _ _ (.tmp 6) _ from rfl))) (fun w' hf => ?_)
          first | rfl | exact hbad.elim | (exfalso; exact hnz (by omega) (by omega))
         ·skip
          refine any_all [18] (by kernel_rfl) rfl ?_
          refine ⟨⟨_, rfl, ?_⟩, trivial⟩
          ·skip
           refine guard_yes rfl rfl (not_decide_t hc71) ?_
           refine op_fnV rfl rfl rfl hH70 (c18 (hG.now hH70 (n := 5) rfl)) (fun w73 hH74 => ?_)
           refine ops_nil ?_
           refine ⟨hH74, ?_⟩
           refine any_takes [19, 20] (by kernel_rfl) hH74 _ _ _ (by kernel_rfl) ?_
           refine qs_y rfl rfl (yv_pick_t rfl (not_decide_t hc71) rfl) ?_
           refine qs_y rfl rfl (yv_assign rfl) (qs_nil ?_)
           refine any_done (by kernel_rfl) ?_
           refine thn_n (ret ?_)
           have hH75 := (hH74.sub (sC (sC (sC (sC (sC sR))))))
           refine fin hH75 (fun w' hf => (res1 rfl (show RV _ _ _ (.tmp 6) _ from rfl))) (fun w' hf => ?_)
           first | rfl | exact hbad.elim | (exfalso; exact hnz (by omega) (by omega))
     ·skip
      have hcz : B.cp (nth l (i : Int)) (j : Int) (l.length : Int) (B.path l i) (B.root l) = 0 := by omega
      have hne := B.nth_ne hnd hil hjl (show ¬ (j : Int) = (i : Int) by omega)
      have hz := B.cp_zero hjl hl24 hcz
      have hok := hz.2.1
      have hco := B.proved_coll hc0 hjl hcz hne
      have hsn := ((B.st_ok (e := nth l (i : Int)) l.length j _ (by omega)).2 hok).2
      refine guard_yes rfl rfl (not_decide_t hc37) ?_
      refine oM hH34 rfl rfl ?_
      refine guard_yes rfl rfl (not_decide_t hc37) ?_
      refine ops_y hH34 rfl rfl (yv_not rfl) ?_
      refine guard_yes rfl rfl (not_decide_t hc37) ?_
      refine oM hH34 rfl rfl ?_
      by_cases hc76 : (!((B.st (nth l (i : Int)) j l.length (B.path l i)).2)) = true
      ·skip
       refine guard_no rfl rfl hc76 rfl ?_
       refine guard_no rfl rfl hc76 rfl ?_
       refine guard_no rfl rfl hc76 rfl ?_
       refine guard_no rfl rfl hc76 rfl ?_
       refine guard_no rfl rfl hc76 rfl ?_
       refine guard_no rfl rfl hc76 rfl ?_
       refine guard_no rfl rfl hc76 rfl ?_
       refine guard_yes rfl rfl (not_decide_t hc37) ?_
       refine ops_y hH34 rfl rfl (yv_pick_t rfl hc76 rfl) ?_
       refine ops_y hH34 rfl rfl (yv_pick_t rfl (not_decide_t hc37) rfl) ?_
       refine ops_nil (thn_n ?_)
       refine cond_t rfl rfl ?_
       refine seq ?_
       have hbad : False := by first | exact absurd hco ‹_› | exact absurd hok (B.bnt ‹_›)
       refine region (oA hH34 rfl rfl (ops_nil (thn_n (ret (thn_r ?_)))))
       have hH77 := (hH34.sub (sC (sC (sC sR))))
       refine fin hH77 (fun w' hf => (res1 rfl (show RV _ _ _ (.tmp 6) _ from rfl))) (fun w' hf => ?_)
       first | rfl | exact hbad.elim | (exfalso; exact hnz (by omega) (by omega))
      ·skip
       refine guard_yes rfl rfl (Bool.eq_false_iff.2 hc76) ?_
       refine ops_y hH34 rfl rfl (yv_field T.f24_0 rfl) ?_
       refine guard_yes rfl rfl (Bool.eq_false_iff.2 hc76) ?_
       refine ops_y hH34 rfl rfl (yv_load T.one22 rfl (fun _ hw => Heap.cellw hw (n := 2) rfl rfl)) ?_
       refine guard_yes rfl rfl (Bool.eq_false_iff.2 hc76) ?_
       refine op_fn rfl rfl rfl hH34 (c48 (h0.now hH34 (n := 3) rfl) (by omega) hin0) (fun u80 w78 lo81 hi82 hH79 hv83 => ?_)
       have hH84 := Heap.toOw hH79 (n := 0) rfl
       refine guard_yes rfl rfl (Bool.eq_false_iff.2 hc76) ?_
       refine oM hH84 rfl rfl ?_
       refine guard_yes rfl rfl (Bool.eq_false_iff.2 hc76) ?_
       refine op_append (n := 0) T.el56_encT rfl rfl rfl hH84 rfl (Heap.rdw T.el56_encT hH84 (n := 1) rfl) (by first | omega | (simp only [List.length_append, List.length_cons, List.length_nil]; omega)) (fun u85 lo87 hi88 w86 hH89 => ?_)
       refine guard_yes rfl rfl (Bool.eq_false_iff.2 hc76) ?_
       refine op_fnV rfl rfl rfl hH89 (c47 (Heap.rdw T.el56_encT hH89 (n := 0) rfl) (B.ss_len hl24 (by omega) (by omega) hok) (B.ss_each hin0 hee (by omega))) (fun w90 hH91 => ?_)
       refine guard_yes rfl rfl (Bool.eq_false_iff.2 hc76) ?_
       refine ops_y hH91 rfl rfl (yv_not rfl) ?_
       refine guard_yes rfl rfl (not_decide_t hc37) ?_
       refine ops_y hH91 rfl rfl (yv_pick_f rfl (Bool.eq_false_iff.2 hc76) rfl) ?_
       refine ops_y hH91 rfl rfl (yv_pick_t rfl (not_decide_t hc37) rfl) ?_
       refine ops_nil (thn_n ?_)
       by_cases hc92 : B.coll ((B.strs l) ++ (B.st (nth l (i : Int)) j l.length (B.path l i)).1)
       ·skip
        refine cond_f rfl (not_decide_n hc92) ?_
        refine skip (thn_n (seq ?_))
        have hpl3 : (([] : List UInt64) ++ B.path l i).length ≤ 5 := by simp; omega
        refine region ?_
        refine op_lit (us := []) T.el39_encW ([] : List UInt64) rfl (by decide) rfl (fun a ha => by simp) (fun w => by kernel_rfl) hH91 (fun u93 lo95 hi96 w94 hH97 => ?_)
        refine oM hH97 rfl rfl ?_
        refine op_append (n := 0) T.el39_encW rfl rfl rfl hH97 rfl (Heap.rdw T.el39_encW hH97 (n := 3) rfl) (by first | omega | (simp only [List.length_append, List.length_cons, List.length_nil]; omega)) (fun u98 lo100 hi101 w99 hH102 => ?_)
        refine oM hH102 rfl rfl ?_
        refine op_lit (us := [(0, (.int .u64 ((B.root l).toNat : Int)))]) T.el39_encW [B.root l] rfl (by decide) rfl (fun a ha => by simp [ha.ev (show ev _ (.tmp 106) = some _ from rfl)]) (fun w => by kernel_rfl) hH102 (fun u103 lo105 hi106 w104 hH107 => ?_)
        refine op_append (n := 1) T.el39_encW rfl rfl rfl hH107 rfl (Heap.rdw T.el39_encW hH107 (n := 0) rfl) (by first | omega | (simp only [List.length_append, List.length_cons, List.length_nil]; omega)) (fun u108 lo110 hi111 w109 hH112 => ?_)
        refine oA hH112 rfl rfl (ops_nil (thn_n (seq (seq ?_))))
        have hpl2 : (([] : List UInt64) ++ B.path l i ++ [B.root l]).length ≤ 6 := by simp; omega
        refine region ?_
        refine ops_y hH112 rfl rfl (yv_field T.f24_0 rfl) ?_
        refine ops_y hH112 rfl rfl (yv_load T.one22 rfl (fun _ hw => Heap.cellw hw (n := 5) rfl rfl)) ?_
        refine oM hH112 rfl rfl ?_
        refine ops_y hH112 rfl rfl (yv_index T.sl22 rfl rfl (h0.now hH112 (n := 6) rfl).is (by omega)) ?_
        refine ops_y hH112 rfl rfl (yv_loadA (cs := [(.int .i64 ((nth l (i : Int)).n)), (.int .i64 ((nth l (i : Int)).d)), (.int .i64 ((nth l (i : Int)).f)), (.int .i64 ((nth l (i : Int)).t)), (.int .i64 ((nth l (i : Int)).a))]) T.agg38 rfl rfl (fun _ hw => Rd.atA (h0.now hw (n := 6) rfl) (i := (i : Int)) (by omega))) ?_
        refine oM hH112 rfl rfl (oM hH112 rfl rfl (oM hH112 rfl rfl (oM hH112 rfl rfl ?_)))
        refine op_fnV rfl rfl rfl hH112 (c30 (e := (nth l (i : Int))) (i := (i : Int)) (n := (l.length : Int)) (r := B.root l) (hG.now hH112 (n := 6) rfl) (Heap.rdw T.el39_encW hH112 (n := 1) rfl) (by omega)) (fun w113 hH114 => ?_)
        refine ops_y hH114 rfl rfl (yv_eql rfl rfl) ?_
        refine ops_nil (thn_n ?_)
        by_cases hc115 : (B.cp (nth l (i : Int)) (i : Int) (l.length : Int) ((([] : List UInt64) ++ (B.path l i)) ++ [B.root l]) (B.root l)) = 0
        ·skip
         refine cond_t rfl (dT hc115) ?_
         refine seq ?_
         have hbad : False := by have h9 := B.cp_len hl24 hil ‹_›; simp at h9
         refine region (oA hH114 rfl rfl (ops_nil (thn_n (ret (thn_r ?_)))))
         have hH116 := (hH114.sub (sC (sC (sC (sC (sC (sC sR)))))))
         refine fin hH116 (fun w' hf => (res1 rfl (show RV _ _ _ (.tmp 6) _ from rfl))) (fun w' hf => ?_)
         first | rfl | exact hbad.elim | (exfalso; exact hnz (by omega) (by omega))
        ·skip
         refine cond_f rfl (dF hc115) ?_
         refine skip (thn_n (seq ?_))
         have hnz : ¬ ((B.path l i).length : Int) = 0 → ¬ B.cp (nth l (i : Int)) (i : Int) (l.length : Int) ((B.path l i).drop 1) (B.root l) = 0 := fun h1 h2 => by have h9 := B.cp_len hl24 hil h2; rw [List.length_drop] at h9; omega
         refine region_draw (fun w' => Heap [ow lo105 hi106 32 1 encW u103 [B.root l], ow lo110 hi111 32 1 encW u108 ((([] : List UInt64) ++ (B.path l i)) ++ [B.root l]), ow lo87 hi88 9 1 encT u85 ((B.strs l) ++ (B.st (nth l (i : Int)) j l.length (B.path l i)).1), ow lo31 hi32 9 1 encT p35 ((B.st (nth l (i : Int)) j l.length (B.path l i)).1), ow lo19 hi20 32 1 encW p23 (B.path l i), bx b1 24 [v], base w] w') T.mixed (fun w117 hr118 => ?_)
         have hH119 := hH114.redrawn hr118
         refine any_takes [0, 1, 2, 3] (by kernel_rfl) hH119 _ _ _ (by kernel_rfl) ?_
         refine qM rfl rfl rfl ?_
         refine qs_y rfl rfl (yv_len T.sl39 rfl (Heap.rdw T.el39_encW hH119 (n := 4) rfl).is) ?_
         refine qs_y rfl rfl (yv_eql rfl rfl) ?_
         refine qM rfl rfl rfl (qs_nil ?_)
         by_cases hc120 : ((B.path l i).length : Int) = 0
         ·skip
          refine any_takes [4, 5, 6, 7, 8, 9, 10, 11, 12, 13, 14, 15, 16, 17] (by kernel_rfl) hH119 _ _ _ (by kernel_rfl) ?_
          refine qs_no rfl rfl rfl (dT hc120) rfl ?_
          refine qs_no rfl rfl rfl (dT hc120) rfl ?_
          refine qs_no rfl rfl rfl (dT hc120) rfl ?_
          refine qs_no rfl rfl rfl (dT hc120) rfl ?_
          refine qs_no rfl rfl rfl (dT hc120) rfl ?_
          refine qs_no rfl rfl rfl (dT hc120) rfl ?_
          refine qs_no rfl rfl rfl (dT hc120) rfl ?_
          refine qs_no rfl rfl rfl (dT hc120) rfl ?_
          refine qs_no rfl rfl rfl (dT hc120) rfl ?_
          refine qs_no rfl rfl rfl (dT hc120) rfl ?_
          refine qs_no rfl rfl rfl (dT hc120) rfl ?_
          refine qs_no rfl rfl rfl (dT hc120) rfl ?_
          refine qs_y rfl rfl (yv_pick_t rfl (dT hc120) rfl) ?_
          refine qM rfl rfl rfl (qs_nil ?_)
          refine any_all [18] (by kernel_rfl) rfl ?_
          refine ⟨⟨_, rfl, ?_⟩, trivial⟩
          ·skip
           refine guard_yes rfl rfl rfl ?_
           refine op_fnV rfl rfl rfl hH119 (c18 (hG.now hH119 (n := 6) rfl)) (fun w121 hH122 => ?_)
           refine ops_nil ?_
           refine ⟨hH122, ?_⟩
           refine any_takes [19, 20] (by kernel_rfl) hH122 _ _ _ (by kernel_rfl) ?_
           refine qs_y rfl rfl (yv_pick_t rfl rfl rfl) ?_
           refine qs_y rfl rfl (yv_assign rfl) (qs_nil ?_)
           refine any_done (by kernel_rfl) ?_
           refine thn_n (ret ?_)
           have hH123 := (hH122.sub (sC (sC (sC (sC (sC (sC sR)))))))
           refine fin hH123 (fun w' hf => (res1 rfl (show RV _ _ _ (.tmp 6) _ from rfl))) (fun w' hf => ?_)
           first | rfl | exact hbad.elim | (exfalso; exact hnz (by omega) (by omega))
         ·skip
          refine any_takes [4, 5, 6, 7, 8, 9, 10, 11, 12, 13] (by kernel_rfl) hH119 _ _ _ (by kernel_rfl) ?_
          refine qs_yes rfl rfl rfl (dF hc120) rfl (yv_field T.f24_0 rfl) ?_
          refine qs_yes rfl rfl rfl (dF hc120) rfl (yv_load T.one22 rfl (fun _ hw => Heap.cellw hw (n := 5) rfl rfl)) ?_
          refine qW rfl rfl rfl (dF hc120) rfl rfl ?_
          refine qs_yes rfl rfl rfl (dF hc120) rfl (yv_index T.sl22 rfl rfl (h0.now hH119 (n := 6) rfl).is (by omega)) ?_
          refine qs_yes rfl rfl rfl (dF hc120) rfl (yv_loadA (cs := [(.int .i64 ((nth l (i : Int)).n)), (.int .i64 ((nth l (i : Int)).d)), (.int .i64 ((nth l (i : Int)).f)), (.int .i64 ((nth l (i : Int)).t)), (.int .i64 ((nth l (i : Int)).a))]) T.agg38 rfl rfl (fun _ hw => Rd.atA (h0.now hw (n := 6) rfl) (i := (i : Int)) (by omega))) ?_
          refine qW rfl rfl rfl (dF hc120) rfl rfl ?_
          refine qW rfl rfl rfl (dF hc120) rfl rfl ?_
          refine qW rfl rfl rfl (dF hc120) rfl rfl ?_
          refine qs_yes rfl rfl rfl (dF hc120) rfl (yv_cut_lo T.sl39 rfl rfl (Heap.rdw T.el39_encW hH119 (n := 4) rfl).is (by omega)) ?_
          refine qW rfl rfl rfl (dF hc120) rfl rfl ?_
          refine qs_nil ?_
          refine any_all [14] (by kernel_rfl) rfl ?_
          refine ⟨⟨_, rfl, ?_⟩, trivial⟩
          ·skip
           refine guard_yes rfl rfl (dF hc120) ?_
           refine op_fnV rfl rfl rfl hH119 (c30 (e := (nth l (i : Int))) (i := (i : Int)) (n := (l.length : Int)) (r := B.root l) (hG.now hH119 (n := 6) rfl) (Rd.from (Heap.rdw T.el39_encW hH119 (n := 4) rfl) (lo := 1) (by omega)) (by rw [List.length_drop]; omega)) (fun w124 hH125 => ?_)
           refine ops_nil ?_
           refine ⟨hH125, ?_⟩
           refine any_takes [15, 16, 17] (by kernel_rfl) hH125 _ _ _ (by kernel_rfl) ?_
           refine qs_yes rfl rfl rfl (dF hc120) rfl (yv_neq rfl rfl) ?_
           refine qs_y rfl rfl (yv_pick_f rfl (dF hc120) rfl) ?_
           refine qM rfl rfl rfl (qs_nil ?_)
           by_cases hc126 : (B.cp (nth l (i : Int)) (i : Int) (l.length : Int) ((B.path l i).drop 1) (B.root l)) = 0
           ·skip
            refine any_takes [18, 19, 20] (by kernel_rfl) hH125 _ _ _ (by kernel_rfl) ?_
            refine qs_no rfl rfl rfl (not_decide_n hc126) rfl ?_
            refine qs_y rfl rfl (yv_pick_f rfl (not_decide_n hc126) rfl) ?_
            refine qs_y rfl rfl (yv_assign rfl) (qs_nil ?_)
            refine any_done (by kernel_rfl) ?_
            refine thn_n (ret ?_)
            have hH127 := (hH125.sub (sC (sC (sC (sC (sC (sC sR)))))))
            refine fin hH127 (fun w' hf => (res1 rfl (show RV _ _ _ (.tmp 6) _ from rfl))) (fun w' hf => ?_)
            first | rfl | exact hbad.elim | (exfalso; exact hnz (by omega) (by omega))
           ·skip
            refine any_all [18] (by kernel_rfl) rfl ?_
            refine ⟨⟨_, rfl, ?_⟩, trivial⟩
            ·skip
             refine guard_yes rfl rfl (not_decide_t hc126) ?_
             refine op_fnV rfl rfl rfl hH125 (c18 (hG.now hH125 (n := 6) rfl)) (fun w128 hH129 => ?_)
             refine ops_nil ?_
             refine ⟨hH129, ?_⟩
             refine any_takes [19, 20] (by kernel_rfl) hH129 _ _ _ (by kernel_rfl) ?_
             refine qs_y rfl rfl (yv_pick_t rfl (not_decide_t hc126) rfl) ?_
             refine qs_y rfl rfl (yv_assign rfl) (qs_nil ?_)
             refine any_done (by kernel_rfl) ?_
             refine thn_n (ret ?_)
             have hH130 := (hH129.sub (sC (sC (sC (sC (sC (sC sR)))))))
             refine fin hH130 (fun w' hf => (res1 rfl (show RV _ _ _ (.tmp 6) _ from rfl))) (fun w' hf => ?_)
             first | rfl | exact hbad.elim | (exfalso; exact hnz (by omega) (by omega))
       ·skip
        refine cond_t rfl (not_decide_t hc92) ?_
        refine seq ?_
        have hbad : False := by first | exact absurd hco ‹_› | exact absurd hok (B.bnt ‹_›)
        refine region (oA hH91 rfl rfl (ops_nil (thn_n (ret (thn_r ?_)))))
        have hH131 := (hH91.sub (sC (sC (sC (sC sR)))))
        refine fin hH131 (fun w' hf => (res1 rfl (show RV _ _ _ (.tmp 6) _ from rfl))) (fun w' hf => ?_)
        first | rfl | exact hbad.elim | (exfalso; exact hnz (by omega) (by omega))
    ·skip
     refine guard_no rfl rfl (dF hc36) rfl ?_
     refine guard_no rfl rfl (dF hc36) rfl ?_
     refine guard_no rfl rfl (dF hc36) rfl ?_
     refine ops_y hH34 rfl rfl (yv_pick_f rfl (dF hc36) rfl) ?_
     refine oM hH34 rfl rfl (guard_no rfl rfl rfl rfl (guard_no rfl rfl rfl rfl (guard_no rfl rfl rfl rfl ?_)))
     refine guard_none rfl rfl rfl ?_
     refine guard_none rfl rfl rfl ?_
     refine guard_none rfl rfl rfl ?_
     refine guard_none rfl rfl rfl ?_
     refine guard_none rfl rfl rfl ?_
     refine guard_none rfl rfl rfl ?_
     refine guard_none rfl rfl rfl ?_
     refine guard_no rfl rfl rfl rfl ?_
     refine ops_y hH34 rfl rfl (yv_pick_f rfl rfl rfl) ?_
     refine ops_nil (thn_n ?_)
     refine cond_f rfl rfl ?_
     refine skip (thn_n (seq ?_))
     have hpl3 : (([] : List UInt64) ++ B.path l i).length ≤ 5 := by simp; omega
     refine region ?_
     refine op_lit (us := []) T.el39_encW ([] : List UInt64) rfl (by decide) rfl (fun a ha => by simp) (fun w => by kernel_rfl) hH34 (fun u132 lo134 hi135 w133 hH136 => ?_)
     refine oM hH136 rfl rfl ?_
     refine op_append (n := 0) T.el39_encW rfl rfl rfl hH136 rfl (Heap.rdw T.el39_encW hH136 (n := 2) rfl) (by first | omega | (simp only [List.length_append, List.length_cons, List.length_nil]; omega)) (fun u137 lo139 hi140 w138 hH141 => ?_)
     refine oM hH141 rfl rfl ?_
     refine op_lit (us := [(0, (.int .u64 ((B.root l).toNat : Int)))]) T.el39_encW [B.root l] rfl (by decide) rfl (fun a ha => by simp [ha.ev (show ev _ (.tmp 106) = some _ from rfl)]) (fun w => by kernel_rfl) hH141 (fun u142 lo144 hi145 w143 hH146 => ?_)
     refine op_append (n := 1) T.el39_encW rfl rfl rfl hH146 rfl (Heap.rdw T.el39_encW hH146 (n := 0) rfl) (by first | omega | (simp only [List.length_append, List.length_cons, List.length_nil]; omega)) (fun u147 lo149 hi150 w148 hH151 => ?_)
     refine oA hH151 rfl rfl (ops_nil (thn_n (seq (seq ?_))))
     have hpl2 : (([] : List UInt64) ++ B.path l i ++ [B.root l]).length ≤ 6 := by simp; omega
     refine region ?_
     refine ops_y hH151 rfl rfl (yv_field T.f24_0 rfl) ?_
     refine ops_y hH151 rfl rfl (yv_load T.one22 rfl (fun _ hw => Heap.cellw hw (n := 4) rfl rfl)) ?_
     refine oM hH151 rfl rfl ?_
     refine ops_y hH151 rfl rfl (yv_index T.sl22 rfl rfl (h0.now hH151 (n := 5) rfl).is (by omega)) ?_
     refine ops_y hH151 rfl rfl (yv_loadA (cs := [(.int .i64 ((nth l (i : Int)).n)), (.int .i64 ((nth l (i : Int)).d)), (.int .i64 ((nth l (i : Int)).f)), (.int .i64 ((nth l (i : Int)).t)), (.int .i64 ((nth l (i : Int)).a))]) T.agg38 rfl rfl (fun _ hw => Rd.atA (h0.now hw (n := 5) rfl) (i := (i : Int)) (by omega))) ?_
     refine oM hH151 rfl rfl (oM hH151 rfl rfl (oM hH151 rfl rfl (oM hH151 rfl rfl ?_)))
     refine op_fnV rfl rfl rfl hH151 (c30 (e := (nth l (i : Int))) (i := (i : Int)) (n := (l.length : Int)) (r := B.root l) (hG.now hH151 (n := 5) rfl) (Heap.rdw T.el39_encW hH151 (n := 1) rfl) (by omega)) (fun w152 hH153 => ?_)
     refine ops_y hH153 rfl rfl (yv_eql rfl rfl) ?_
     refine ops_nil (thn_n ?_)
     by_cases hc154 : (B.cp (nth l (i : Int)) (i : Int) (l.length : Int) ((([] : List UInt64) ++ (B.path l i)) ++ [B.root l]) (B.root l)) = 0
     ·skip
      refine cond_t rfl (dT hc154) ?_
      refine seq ?_
      have hbad : False := by have h9 := B.cp_len hl24 hil ‹_›; simp at h9
      refine region (oA hH153 rfl rfl (ops_nil (thn_n (ret (thn_r ?_)))))
      have hH155 := (hH153.sub (sC (sC (sC (sC (sC sR))))))
      refine fin hH155 (fun w' hf => (res1 rfl (show RV _ _ _ (.tmp 6) _ from rfl))) (fun w' hf => ?_)
      first | rfl | exact hbad.elim | (exfalso; exact hnz (by omega) (by omega))
     ·skip
      refine cond_f rfl (dF hc154) ?_
      refine skip (thn_n (seq ?_))
      have hnz : ¬ ((B.path l i).length : Int) = 0 → ¬ B.cp (nth l (i : Int)) (i : Int) (l.length : Int) ((B.path l i).drop 1) (B.root l) = 0 := fun h1 h2 => by have h9 := B.cp_len hl24 hil h2; rw [List.length_drop] at h9; omega
      refine region_draw (fun w' => Heap [ow lo144 hi145 32 1 encW u142 [B.root l], ow lo149 hi150 32 1 encW u147 ((([] : List UInt64) ++ (B.path l i)) ++ [B.root l]), ow lo31 hi32 9 1 encT p35 ((B.st (nth l (i : Int)) j l.length (B.path l i)).1), ow lo19 hi20 32 1 encW p23 (B.path l i), bx b1 24 [v], base w] w') T.mixed (fun w156 hr157 => ?_)
      have hH158 := hH153.redrawn hr157
      refine any_takes [0, 1, 2, 3] (by kernel_rfl) hH158 _ _ _ (by kernel_rfl) ?_
      refine qM rfl rfl rfl ?_
      refine qs_y rfl rfl (yv_len T.sl39 rfl (Heap.rdw T.el39_encW hH158 (n := 3) rfl).is) ?_
      refine qs_y rfl rfl (yv_eql rfl rfl) ?_
      refine qM rfl rfl rfl (qs_nil ?_)
      by_cases hc159 : ((B.path l i).length : Int) = 0
      ·skip
       refine any_takes [4, 5, 6, 7, 8, 9, 10, 11, 12, 13, 14, 15, 16, 17] (by kernel_rfl) hH158 _ _ _ (by kernel_rfl) ?_
       refine qs_no rfl rfl rfl (dT hc159) rfl ?_
       refine qs_no rfl rfl rfl (dT hc159) rfl ?_
       refine qs_no rfl rfl rfl (dT hc159) rfl ?_
       refine qs_no rfl rfl rfl (dT hc159) rfl ?_
       refine qs_no rfl rfl rfl (dT hc159) rfl ?_
       refine qs_no rfl rfl rfl (dT hc159) rfl ?_
       refine qs_no rfl rfl rfl (dT hc159) rfl ?_
       refine qs_no rfl rfl rfl (dT hc159) rfl ?_
       refine qs_no rfl rfl rfl (dT hc159) rfl ?_
       refine qs_no rfl rfl rfl (dT hc159) rfl ?_
       refine qs_no rfl rfl rfl (dT hc159) rfl ?_
       refine qs_no rfl rfl rfl (dT hc159) rfl ?_
       refine qs_y rfl rfl (yv_pick_t rfl (dT hc159) rfl) ?_
       refine qM rfl rfl rfl (qs_nil ?_)
       refine any_all [18] (by kernel_rfl) rfl ?_
       refine ⟨⟨_, rfl, ?_⟩, trivial⟩
       ·skip
        refine guard_yes rfl rfl rfl ?_
        refine op_fnV rfl rfl rfl hH158 (c18 (hG.now hH158 (n := 5) rfl)) (fun w160 hH161 => ?_)
        refine ops_nil ?_
        refine ⟨hH161, ?_⟩
        refine any_takes [19, 20] (by kernel_rfl) hH161 _ _ _ (by kernel_rfl) ?_
        refine qs_y rfl rfl (yv_pick_t rfl rfl rfl) ?_
        refine qs_y rfl rfl (yv_assign rfl) (qs_nil ?_)
        refine any_done (by kernel_rfl) ?_
        refine thn_n (ret ?_)
        have hH162 := (hH161.sub (sC (sC (sC (sC (sC sR))))))
        refine fin hH162 (fun w' hf => (res1 rfl (show RV _ _ _ (.tmp 6) _ from rfl))) (fun w' hf => ?_)
        first | rfl | exact hbad.elim | (exfalso; exact hnz (by omega) (by omega))
      ·skip
       refine any_takes [4, 5, 6, 7, 8, 9, 10, 11, 12, 13] (by kernel_rfl) hH158 _ _ _ (by kernel_rfl) ?_
       refine qs_yes rfl rfl rfl (dF hc159) rfl (yv_field T.f24_0 rfl) ?_
       refine qs_yes rfl rfl rfl (dF hc159) rfl (yv_load T.one22 rfl (fun _ hw => Heap.cellw hw (n := 4) rfl rfl)) ?_
       refine qW rfl rfl rfl (dF hc159) rfl rfl ?_
       refine qs_yes rfl rfl rfl (dF hc159) rfl (yv_index T.sl22 rfl rfl (h0.now hH158 (n := 5) rfl).is (by omega)) ?_
       refine qs_yes rfl rfl rfl (dF hc159) rfl (yv_loadA (cs := [(.int .i64 ((nth l (i : Int)).n)), (.int .i64 ((nth l (i : Int)).d)), (.int .i64 ((nth l (i : Int)).f)), (.int .i64 ((nth l (i : Int)).t)), (.int .i64 ((nth l (i : Int)).a))]) T.agg38 rfl rfl (fun _ hw => Rd.atA (h0.now hw (n := 5) rfl) (i := (i : Int)) (by omega))) ?_
       refine qW rfl rfl rfl (dF hc159) rfl rfl ?_
       refine qW rfl rfl rfl (dF hc159) rfl rfl ?_
       refine qW rfl rfl rfl (dF hc159) rfl rfl ?_
       refine qs_yes rfl rfl rfl (dF hc159) rfl (yv_cut_lo T.sl39 rfl rfl (Heap.rdw T.el39_encW hH158 (n := 3) rfl).is (by omega)) ?_
       refine qW rfl rfl rfl (dF hc159) rfl rfl ?_
       refine qs_nil ?_
       refine any_all [14] (by kernel_rfl) rfl ?_
       refine ⟨⟨_, rfl, ?_⟩, trivial⟩
       ·skip
        refine guard_yes rfl rfl (dF hc159) ?_
        refine op_fnV rfl rfl rfl hH158 (c30 (e := (nth l (i : Int))) (i := (i : Int)) (n := (l.length : Int)) (r := B.root l) (hG.now hH158 (n := 5) rfl) (Rd.from (Heap.rdw T.el39_encW hH158 (n := 3) rfl) (lo := 1) (by omega)) (by rw [List.length_drop]; omega)) (fun w163 hH164 => ?_)
        refine ops_nil ?_
        refine ⟨hH164, ?_⟩
        refine any_takes [15, 16, 17] (by kernel_rfl) hH164 _ _ _ (by kernel_rfl) ?_
        refine qs_yes rfl rfl rfl (dF hc159) rfl (yv_neq rfl rfl) ?_
        refine qs_y rfl rfl (yv_pick_f rfl (dF hc159) rfl) ?_
        refine qM rfl rfl rfl (qs_nil ?_)
        by_cases hc165 : (B.cp (nth l (i : Int)) (i : Int) (l.length : Int) ((B.path l i).drop 1) (B.root l)) = 0
        ·skip
         refine any_takes [18, 19, 20] (by kernel_rfl) hH164 _ _ _ (by kernel_rfl) ?_
         refine qs_no rfl rfl rfl (not_decide_n hc165) rfl ?_
         refine qs_y rfl rfl (yv_pick_f rfl (not_decide_n hc165) rfl) ?_
         refine qs_y rfl rfl (yv_assign rfl) (qs_nil ?_)
         refine any_done (by kernel_rfl) ?_
         refine thn_n (ret ?_)
         have hH166 := (hH164.sub (sC (sC (sC (sC (sC sR))))))
         refine fin hH166 (fun w' hf => (res1 rfl (show RV _ _ _ (.tmp 6) _ from rfl))) (fun w' hf => ?_)
         first | rfl | exact hbad.elim | (exfalso; exact hnz (by omega) (by omega))
        ·skip
         refine any_all [18] (by kernel_rfl) rfl ?_
         refine ⟨⟨_, rfl, ?_⟩, trivial⟩
         ·skip
          refine guard_yes rfl rfl (not_decide_t hc165) ?_
          refine op_fnV rfl rfl rfl hH164 (c18 (hG.now hH164 (n := 5) rfl)) (fun w167 hH168 => ?_)
          refine ops_nil ?_
          refine ⟨hH168, ?_⟩
          refine any_takes [19, 20] (by kernel_rfl) hH168 _ _ _ (by kernel_rfl) ?_
          refine qs_y rfl rfl (yv_pick_t rfl (not_decide_t hc165) rfl) ?_
          refine qs_y rfl rfl (yv_assign rfl) (qs_nil ?_)
          refine any_done (by kernel_rfl) ?_
          refine thn_n (ret ?_)
          have hH169 := (hH168.sub (sC (sC (sC (sC (sC sR))))))
          refine fin hH169 (fun w' hf => (res1 rfl (show RV _ _ _ (.tmp 6) _ from rfl))) (fun w' hf => ?_)
          first | rfl | exact hbad.elim | (exfalso; exact hnz (by omega) (by omega))
 ·skip
  refine guard_no rfl rfl (not_decide_t hc6) rfl ?_
  refine guard_no rfl rfl (not_decide_t hc6) rfl ?_
  refine guard_no rfl rfl (not_decide_t hc6) rfl ?_
  refine guard_no rfl rfl (not_decide_t hc6) rfl ?_
  refine ops_y hH5 rfl rfl (yv_pick_t rfl (not_decide_t hc6) rfl) ?_
  refine ops_nil (thn_n ?_)
  refine cond_t rfl rfl ?_
  refine seq (region ?_)
  refine op_fnV rfl rfl rfl hH5 (c18 (hG.now hH5 (n := 1) rfl)) (fun w170 hH171 => ?_)
  refine oA hH171 rfl rfl (ops_nil (thn_n (ret (thn_r ?_))))
  have hH172 := (hH171.sub (sC sR))
  refine fin hH172 (fun w' hf => (res1 rfl (show RV _ _ _ (.tmp 6) _ from rfl))) (fun w' hf => ?_)
  first | rfl | exact hbad.elim | (exfalso; exact hnz (by omega) (by omega))
end Go.Fip
