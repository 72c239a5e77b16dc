/- Walks of the law, and what it alone needs, by program (wip/tools). -/
import Derived.Test.YtfomadbnfcadnaaGreatDoorMJ
set_option linter.unusedVariables false
set_option linter.unusedSimpArgs false
set_option linter.unusedSectionVars false
set_option linter.unnecessarySimpa false
namespace Go.Fip
theorem sC {α : Type} {a : α} {l m : List α} (h : l.Sublist m) : l.Sublist (a :: m) := .cons a h
theorem sR {α : Type} {l : List α} : l.Sublist l := .refl l
theorem uC {env env' : Env} {i : Nat} {v : Value} (h : env.find i = some v) (hs : Sub env' env) : Sub ((i, v) :: env') env := Sub.cons h hs
theorem dF {p : Prop} [Decidable p] (h : ¬ p) : decide p = false := decide_eq_false h
theorem dT {p : Prop} [Decidable p] (h : p) : decide p = true := decide_eq_true h
section
variable {r : Option Nat} {P : Program} {N : Nat} {S : World → Prop} {ds : List Deferred} {env : Env} {w : World} {Q : Post} {all : Array Oper} {rest : List Oper} {d : Nat} {x : Operand} {ty : TypeId} {pos : String} {after : Array Edge} {v : Value}
theorem oM (hS : S w) (hd : Nat.blt d N = true) (hx : ev env x = some v) (h : Ops r P N all rest ds ((d, v) :: env) w Q) : Ops r P N all (⟨some d, .move x, ty, pos, after, none⟩ :: rest) ds env w Q := ops_y hS rfl hd (yv_move hx) h
theorem oA (hS : S w) (hd : Nat.blt d N = true) (hx : ev env x = some v) (h : Ops r P N all rest ds ((d, v) :: env) w Q) : Ops r P N all (⟨some d, .assign x, ty, pos, after, none⟩ :: rest) ds env w Q := ops_y hS rfl hd (yv_assign hx) h
end
section
variable {P : Program} {N : Nat} {S : World → Prop} {ops : Array Oper} {ds : List Deferred} {env : Env} {K : Env → Prop} {i : Nat} {is : List Nat} {d : Nat} {x : Operand} {ty : TypeId} {pos : String} {after : Array Edge} {v : Value}
theorem qM (hi : ops[i]? = some ⟨some d, .move x, ty, pos, after, none⟩) (hN : Nat.blt d N = true) (hx : ev env x = some v) (h : Qs P N S ops ds K is ((d, v) :: env)) : Qs P N S ops ds K (i :: is) env := qs_y hi hN (yv_move hx) h
theorem qW {j : Nat} {want : Bool} {s : Nat} {b : Bool} (hi : ops[i]? = some ⟨some d, .move x, ty, pos, after, some (j, want)⟩) (hj : (ops[j]?).bind (·.dst) = some s) (hs : env.find s = some (.bool b)) (hb : b = want) (hN : Nat.blt d N = true) (hx : ev env x = some v) (h : Qs P N S ops ds K is ((d, v) :: env)) : Qs P N S ops ds K (i :: is) env := qs_yes hi hj hs hb hN (yv_move hx) h
end
end Go.Fip
namespace Go.Fip
open Go.ChangeShapes Go.WideShapes Go.ChangeAt Go.RowKit
section
variable {H : Type} {enc : TypeId × Value → H} {P : Program} {w : World}
theorem trodAll_below (hl : laidOutB P = true) {W W' : World} (hb : Below W.heap.size W W') : ∀ (ts : List TypeId) (vs : List Value) (ds : List (DataW H)) (ps : List MemPlace), (ts.all fun t => P.readableRec t && decide (t < P.types.size)) = true →
    DataW.TrodAll enc P W 0 (fun _ => true) true ts vs ds ps → (∀ x ∈ ps, x.block < W.heap.size) → DataW.TrodAll enc P W' 0 (fun b => decide (b < W.heap.size)) true ts vs ds ps
  | [], vs, ds, ps, _, h, _ => by
    obtain ⟨rfl, rfl, rfl⟩ := trodAll_nil h
    rfl
  | t :: ts, vs, ds, ps, hr, h, hlt => by
    obtain ⟨v, vs, d, ds, p, q, rfl, rfl, rfl, h1, h2⟩ := trodAll_cons h
    simp only [List.all_cons, Bool.and_eq_true, decide_eq_true_eq] at hr
    exact ⟨p, q, Below.trod hl hr.1.1 hr.1.2 h1 hb (fun x hx => hlt x (List.mem_append_left _ hx)), trodAll_below hl hb ts vs ds q (by simpa using hr.2) h2 (fun x hx => hlt x (List.mem_append_right _ hx)), rfl⟩
theorem law_post {f : Func} {s : ChangeSpec} {apart fresh : Bool} {W W' : World} {args : Array Value} {ds : List (DataW H)} {before p : List MemPlace} {tb : TypeId} (hl : laidOutB P = true) (hb : Below W.heap.size W W')
    (hr : (f.params.toList.all fun t => P.readableRec t && decide (t < P.types.size)) = true) (hv : s.vars = []) (hW : DataW.Whole enc P f.params.toList s.vars apart W args.toList ds [] before)
    (hA : DataW.TrodAll enc P W 0 (fun _ => true) true f.params.toList args.toList ds p) (hp : before = p) (hrt : f.resultTypes = #[tb]) (htb : P.underlying tb = some .bool) (hs : s.fn H (ds ++ []) = { results := [.lit (.bool true)], args := ds }) :
    s.post enc P f apart fresh false false W args (.bool true) W' := by
  subst hp
  refine ⟨ds, [], before, [], before, [], hW, ?_, ?_, ?_, Below.frame hb _, fun h => by cases h⟩
  · rw [hs, hrt]; exact trodAll_mk1 (shut_bool htb _)
  · rw [hs]; exact trodAll_below hl hb _ _ _ _ hr hA (fun x hx => by simpa using hW.lt x hx)
  · rw [hs, hv]; rfl
end
end Go.Fip
namespace Go.Fip
open Go.Proofs Go.RowKit
namespace K
theorem k1 : B.balR B.three 2 11 = (180, 0) := by decide +kernel
theorem k2 : B.balR B.three 3 9 = (0, 0) := by decide +kernel
end K
end Go.Fip
namespace Go.Fip.B
open Go.Fip
def strsF : Nat → List En → List (List UInt8)
  | 0, _ => []
  | f + 1, l => if l.length = 0 then [[]] else if l.length = 1 then [leaf (nth l 0)] else strsF f (l.take (half l.length)) ++ strsF f (l.drop (half l.length)) ++ [both (root (l.take (half l.length))) (root (l.drop (half l.length)))]
def strs (l : List En) : List (List UInt8) := strsF (l.length + 1) l
theorem strsF_fuel : ∀ (f g : Nat) (l : List En), l.length < f → l.length < g → strsF f l = strsF g l
  | 0, g, l, h, _ => absurd h (Nat.not_lt_zero _)
  | f + 1, 0, l, _, h => absurd h (Nat.not_lt_zero _)
  | f + 1, g + 1, l, h1, h2 => by
    unfold strsF
    split
    · rfl
    split
    · rfl
    · have hh := half_lt (n := l.length) (by omega)
      rw [strsF_fuel f g (l.take (half l.length)) (by rw [List.length_take]; omega) (by rw [List.length_take]; omega), strsF_fuel f g (l.drop (half l.length)) (by rw [List.length_drop]; omega) (by rw [List.length_drop]; omega)]
theorem strs_nil {l : List En} (h : l.length = 0) : strs l = [[]] := by unfold strs strsF; rw [if_pos h]
theorem strs_one {l : List En} (h : l.length = 1) : strs l = [leaf (nth l 0)] := by unfold strs strsF; rw [if_neg (by omega), if_pos h]
theorem strs_two {l : List En} (h : 2 ≤ l.length) : strs l = strs (l.take (half l.length)) ++ strs (l.drop (half l.length)) ++ [both (root (l.take (half l.length))) (root (l.drop (half l.length)))] := by
  have hh := half_lt (n := l.length) (by omega)
  conv => lhs; unfold strs strsF
  rw [if_neg (by omega), if_neg (by omega)]
  unfold strs
  rw [strsF_fuel l.length ((l.take (half l.length)).length + 1) _ (by rw [List.length_take]; omega) (Nat.lt_succ_self _), strsF_fuel l.length ((l.drop (half l.length)).length + 1) _ (by rw [List.length_drop]; omega) (Nat.lt_succ_self _)]
def coll (l : List (List UInt8)) : Prop := ∃ i : Nat, i < l.length ∧ ∃ j : Nat, j < i ∧ sm (nth l (j : Int)) = sm (nth l (i : Int)) ∧ ¬ nth l (j : Int) = nth l (i : Int)
instance {l : List (List UInt8)} : Decidable (coll l) := by unfold coll; infer_instance
def inj (l : List (List UInt8)) : Prop := ∀ x ∈ l, ∀ y ∈ l, sm x = sm y → x = y
theorem inj_of {l : List (List UInt8)} (h : ¬ coll l) : inj l := by
  intro x hx y hy e
  obtain ⟨i, hi, rfl⟩ := List.getElem_of_mem hx
  obtain ⟨j, hj, rfl⟩ := List.getElem_of_mem hy
  refine Decidable.byContradiction fun hne => h ?_
  rcases Nat.lt_trichotomy i j with h1 | h1 | h1
  · exact ⟨j, hj, i, h1, by rw [nth_nat hi, nth_nat hj]; exact e, by rw [nth_nat hi, nth_nat hj]; exact hne⟩
  · subst h1; exact absurd rfl hne
  · exact ⟨i, hi, j, h1, by rw [nth_nat hi, nth_nat hj]; exact e.symm, by rw [nth_nat hi, nth_nat hj]; exact fun c => hne c.symm⟩
theorem inj.sub {l m : List (List UInt8)} (h : inj m) (hs : ∀ x ∈ l, x ∈ m) : inj l := fun x hx y hy e => h x (hs x hx) y (hs y hy) e
theorem strs_mem_left {l : List En} (h : 2 ≤ l.length) : ∀ x ∈ strs (l.take (half l.length)), x ∈ strs l := fun x hx => by
  rw [strs_two h]; exact List.mem_append_left _ (List.mem_append_left _ hx)
theorem strs_mem_right {l : List En} (h : 2 ≤ l.length) : ∀ x ∈ strs (l.drop (half l.length)), x ∈ strs l := fun x hx => by
  rw [strs_two h]; exact List.mem_append_left _ (List.mem_append_right _ hx)
theorem strs_mem_top {l : List En} (h : 2 ≤ l.length) : both (root (l.take (half l.length))) (root (l.drop (half l.length))) ∈ strs l := by
  rw [strs_two h]; exact List.mem_append_right _ (List.mem_singleton.2 rfl)
theorem strs_mem_one {l : List En} (h : l.length = 1) : leaf (nth l 0) ∈ strs l := by rw [strs_one h]; exact List.mem_singleton.2 rfl
theorem inR_take {l : List En} (h : InR l) (k : Nat) : InR (l.take k) := fun i hi => by
  rw [List.length_take] at hi
  have := h i (by omega)
  rw [nth_nat (by omega)] at this
  rw [nth_nat (by rw [List.length_take]; omega), List.getElem_take]; exact this
theorem inR_drop {l : List En} (h : InR l) (k : Nat) : InR (l.drop k) := fun i hi => by
  rw [List.length_drop] at hi
  have := h (k + i) (by omega)
  rw [nth_nat (by omega)] at this
  rw [nth_nat (by rw [List.length_drop]; omega), List.getElem_drop]; exact this
theorem st_eq {S : List (List UInt8)} (hS : inj S) {e : En} (he : isEn e) : ∀ (n i : Nat) (p : List UInt64) (l : List En), l.length = n → i < n → InR l → (∀ x ∈ strs l, x ∈ S) → (∀ x ∈ (st e i n p).1, x ∈ S) → (st e i n p).2 = true → sm (lastS (st e i n p).1) = root l → e = nth l (i : Int) := by
  intro n
  induction n using Nat.strongRecOn with
  | _ n ih =>
    intro i p l hl hi hil hsl hst hok hroot
    by_cases h1 : n = 1
    · subst h1
      have e1 : (st e i 1 p).1 = [leaf e] := congrArg Prod.fst st_one
      rw [e1] at hst hroot
      rw [root_one hl] at hroot
      have hlast : lastS [leaf e] = leaf e := rfl
      rw [hlast] at hroot
      have h2 := hS _ (hst _ (List.mem_singleton.2 rfl)) _ (hsl _ (strs_mem_one hl)) hroot
      have h3 := leaf_inj he (hil 0 (by omega)) h2
      have h0 : i = 0 := by omega
      subst h0; exact h3
    · have hh := half_lt (n := n) (by omega)
      by_cases hp : p.length = 0
      · rw [st_none (by omega) hp] at hok; cases hok
      · by_cases hlt : i < half n
        · by_cases hok2 : (st e i (half n) (p.take (p.length - 1))).2 = true
          · have e1 : (st e i n p).1 = (st e i (half n) (p.take (p.length - 1))).1 ++ [both (sm (lastS (st e i (half n) (p.take (p.length - 1))).1)) (lastW p)] := congrArg Prod.fst (st_l1 (e := e) (by omega) (by omega) hlt hok2)
            rw [e1] at hst hroot
            rw [lastS_snoc, root_two (l := l) (by omega), hl] at hroot
            have hmt := strs_mem_top (l := l) (by omega)
            rw [hl] at hmt
            have hmx : (both (sm (lastS (st e i (half n) (p.take (p.length - 1))).1)) (lastW p)) ∈ (st e i (half n) (p.take (p.length - 1))).1 ++ [both (sm (lastS (st e i (half n) (p.take (p.length - 1))).1)) (lastW p)] := List.mem_append_right _ (List.mem_cons_self ..)
            have h2 : both (sm (lastS (st e i (half n) (p.take (p.length - 1))).1)) (lastW p) = both (root (l.take (half n))) (root (l.drop (half n))) := hS (both (sm (lastS (st e i (half n) (p.take (p.length - 1))).1)) (lastW p)) (hst (both (sm (lastS (st e i (half n) (p.take (p.length - 1))).1)) (lastW p)) hmx) (both (root (l.take (half n))) (root (l.drop (half n)))) (hsl _ hmt) hroot
            have h3 := (both_inj h2).1
            have h4 := ih (half n) (by omega) i (p.take (p.length - 1)) (l.take (half n)) (by rw [List.length_take]; omega) hlt (inR_take hil _)
              (fun x hx => hsl x (by have := strs_mem_left (l := l) (by omega) x; rw [hl] at this; exact this hx)) (fun x hx => hst x (List.mem_append_left _ hx)) hok2 h3
            rw [h4, nth_nat (by rw [List.length_take]; omega), nth_nat (by omega), List.getElem_take]
          · rw [st_l0 (by omega) (by omega) hlt hok2] at hok; cases hok
        · by_cases hok2 : (st e (i - half n) (n - half n) (p.take (p.length - 1))).2 = true
          · have e1 : (st e i n p).1 = (st e (i - half n) (n - half n) (p.take (p.length - 1))).1 ++ [both (lastW p) (sm (lastS (st e (i - half n) (n - half n) (p.take (p.length - 1))).1))] := congrArg Prod.fst (st_r1 (e := e) (by omega) (by omega) hlt hok2)
            rw [e1] at hst hroot
            rw [lastS_snoc, root_two (l := l) (by omega), hl] at hroot
            have hmt := strs_mem_top (l := l) (by omega)
            rw [hl] at hmt
            have hmx : (both (lastW p) (sm (lastS (st e (i - half n) (n - half n) (p.take (p.length - 1))).1))) ∈ (st e (i - half n) (n - half n) (p.take (p.length - 1))).1 ++ [both (lastW p) (sm (lastS (st e (i - half n) (n - half n) (p.take (p.length - 1))).1))] := List.mem_append_right _ (List.mem_cons_self ..)
            have h2 : both (lastW p) (sm (lastS (st e (i - half n) (n - half n) (p.take (p.length - 1))).1)) = both (root (l.take (half n))) (root (l.drop (half n))) := hS (both (lastW p) (sm (lastS (st e (i - half n) (n - half n) (p.take (p.length - 1))).1))) (hst (both (lastW p) (sm (lastS (st e (i - half n) (n - half n) (p.take (p.length - 1))).1))) hmx) (both (root (l.take (half n))) (root (l.drop (half n)))) (hsl _ hmt) hroot
            have h3 := (both_inj h2).2
            have h4 := ih (n - half n) (by omega) (i - half n) (p.take (p.length - 1)) (l.drop (half n)) (by rw [List.length_drop]; omega) (by omega) (inR_drop hil _)
              (fun x hx => hsl x (by have := strs_mem_right (l := l) (by omega) x; rw [hl] at this; exact this hx)) (fun x hx => hst x (List.mem_append_left _ hx)) hok2 h3
            have h5 : nth (l.drop (half n)) ((i - half n : Nat) : Int) = nth l ((half n + (i - half n) : Nat) : Int) := by
              rw [nth_nat (by rw [List.length_drop]; omega), nth_nat (by omega), List.getElem_drop]
            have h6 : half n + (i - half n) = i := by omega
            rw [h6] at h5
            exact h4.trans h5
          · rw [st_r0 (by omega) (by omega) hlt hok2] at hok; cases hok
end Go.Fip.B
namespace Go.Fip
open Go.Proofs Go.RowKit
theorem B.nth_map_sm {l : List (List UInt8)} {i j : Nat} (hj : j < i) (hi : i ≤ l.length) : nth ((l.take i).map B.sm) (j : Int) = B.sm (nth l (j : Int)) := by
 rw [nth_nat (by rw [List.length_map, List.length_take]; omega), nth_nat (by omega), List.getElem_map, List.getElem_take]
theorem B.map_sm_succ {l : List (List UInt8)} {i : Nat} (hi : i < l.length) : (l.take i).map B.sm ++ [B.sm (nth l (i : Int))] = (l.take (i + 1)).map B.sm := by
 rw [List.take_succ_eq_append_getElem hi, List.map_append, nth_nat hi]; rfl
theorem word_eq {a b : UInt64} (h : (a.toNat : Int) = (b.toNat : Int)) : a = b := UInt64.toNat_inj.1 (by omega)
theorem word_ne {a b : UInt64} (h : ¬ (a.toNat : Int) = (b.toNat : Int)) : ¬ a = b := fun e => h (by rw [e])
theorem c47 {v : Value} {l : List (List UInt8)} {w : World} (h0 : Rd encT 1 v l w) (hn : l.length ≤ 1000000) (hlen : ∀ x ∈ l, x.length ≤ 1000)  :
  Fn Tryz.prog 47 [v].toArray w (fun u _ => u = .bool (decide (B.coll l))) := by
 refine fn_of' (args := [v]) Tryz.func47 rfl (ent Tryz.func47 (by kernel_rfl) rfl) rfl rfl (fun hH => ?_)
 refine seq (region (oA hH rfl rfl (ops_nil (thn_n (seq (region (oA hH rfl rfl (ops_nil (thn_n ?_)))))))))
 refine seq (seq (region (oA hH rfl rfl (ops_nil (thn_n (block ?_))))))
 have hH1 := ow_nil (enc := encW) 32 1 hH
 refine loop (S := Nat × Value × Nat × Nat) (fun (i, v_3, lo_3, hi_3) => [(4, (.int .i64 (i : Int))), (3, v_3), (0, v)]) (fun (i, v_3, lo_3, hi_3) w1 => Heap [ow lo_3 hi_3 32 1 encW v_3 ((l.take i).map B.sm), base w] w1 ∧ i ≤ l.length ∧ ∀ i2 : Nat, i2 < i → ∀ j : Nat, j < i2 → ¬ (B.sm (nth l (j : Int)) = B.sm (nth l (i2 : Int)) ∧ ¬ nth l (j : Int) = nth l (i2 : Int))) (fun (i, v_3, lo_3, hi_3) => l.length - i) (0, (.slice none 0 0), w.heap.size, w.heap.size) (uC rfl (uC rfl (uC rfl (Sub.nil _)))) ?_ ?_
 ·exact ⟨(Heap.recast (n := 0) hH1 rfl (rfl)), by omega, fun i2 h => by omega⟩
 ·rintro ⟨i, v_3, lo_3, hi_3⟩ w2 ⟨hH3, hi, hall⟩
  show Holds _ _ _ _ _ [(4, (.int .i64 (i : Int))), (3, v_3), (0, v)] _ _
  have hml : ((l.take i).map B.sm).length = i := by rw [List.length_map, List.length_take]; omega
  refine seq (seq (region (oM hH3 rfl rfl (oM hH3 rfl rfl ?_))))
  refine ops_y hH3 rfl rfl (yv_len T.sl56 rfl (h0.now hH3 (n := 1) rfl).is) ?_
  refine ops_y hH3 rfl rfl (yv_lss rfl rfl) ?_
  refine ops_nil (thn_n ?_)
  by_cases hc4 : (i : Int) < (l.length : Int)
  ·skip
   refine cond_t rfl (dT hc4) ?_
   refine skip (thn_n (seq (block (seq ?_))))
   have hli : (nth l (i : Int)).length ≤ 1000 := hlen _ (B.nth_mem (by omega))
   refine region (oM hH3 rfl rfl (oM hH3 rfl rfl ?_))
   refine ops_y hH3 rfl rfl (yv_index T.sl56 rfl rfl (h0.now hH3 (n := 1) rfl).is (by omega)) ?_
   refine ops_y hH3 rfl rfl (yv_load T.one9 rfl (fun _ hw => Rd.at (h0.now hw (n := 1) rfl) (i := (i : Int)) (by omega) (j := 0) rfl)) ?_
   refine op_fnV rfl rfl rfl hH3 (c69 (l := (nth l (i : Int))) (by first | omega | exact Nat.le_trans hli (by decide))) (fun w5 hH6 => ?_)
   refine oA hH6 rfl rfl (ops_nil (thn_n (seq (seq (region (oA hH6 rfl rfl (ops_nil (thn_n (block ?_)))))))))
   refine loop (S := Nat) (fun j => [(6, (.int .i64 (j : Int))), (0, v), (3, v_3), (4, (.int .i64 (i : Int))), (5, (.int .u64 ((B.sm (nth l (i : Int))).toNat : Int)))]) (fun j w1 => Heap [ow lo_3 hi_3 32 1 encW v_3 ((l.take i).map B.sm), base w] w1 ∧ j ≤ i ∧ ∀ j2 : Nat, j2 < j → ¬ (B.sm (nth l (j2 : Int)) = B.sm (nth l (i : Int)) ∧ ¬ nth l (j2 : Int) = nth l (i : Int))) (fun j => i - j) (0) (uC rfl (uC rfl (uC rfl (uC rfl (uC rfl (Sub.nil _)))))) ?_ ?_
   ·exact ⟨hH6, by omega, fun j2 h => by omega⟩
   ·rintro j w7 ⟨hH8, hj, hal2⟩
    show Holds _ _ _ _ _ [(6, (.int .i64 (j : Int))), (0, v), (3, v_3), (4, (.int .i64 (i : Int))), (5, (.int .u64 ((B.sm (nth l (i : Int))).toNat : Int)))] _ _
    have hnm : j < i → nth ((l.take i).map B.sm) (j : Int) = B.sm (nth l (j : Int)) := fun h => B.nth_map_sm h (by omega)
    refine seq (seq (region (oM hH8 rfl rfl (oM hH8 rfl rfl ?_))))
    refine ops_y hH8 rfl rfl (yv_lss rfl rfl) ?_
    refine ops_nil (thn_n ?_)
    by_cases hc9 : (j : Int) < (i : Int)
    ·skip
     refine cond_t rfl (dT hc9) ?_
     refine skip (thn_n (seq (block (seq ?_))))
     refine region_draw (fun w' => Heap [ow lo_3 hi_3 32 1 encW v_3 ((l.take i).map B.sm), base w] w') T.mixed (fun w10 hr11 => ?_)
     have hH12 := hH8.redrawn hr11
     refine any_takes [0, 1, 2, 3, 4, 5, 6] (by kernel_rfl) hH12 _ _ _ (by kernel_rfl) ?_
     refine qM rfl rfl rfl (qM rfl rfl rfl ?_)
     refine qs_y rfl rfl (yv_index T.sl39 rfl rfl (Heap.rdw T.el39_encW hH12 (n := 0) rfl).is (by omega)) ?_
     refine qs_y rfl rfl (yv_load T.one32 rfl (fun _ hw => Rd.at (Heap.rdw T.el39_encW hw (n := 0) rfl) (i := (j : Int)) (by omega) (j := 0) rfl)) ?_
     refine qM rfl rfl rfl ?_
     refine qs_y rfl rfl (yv_eql rfl rfl) ?_
     refine qM rfl rfl rfl (qs_nil ?_)
     by_cases hc13 : ((nth ((l.take i).map B.sm) (j : Int)).toNat : Int) = ((B.sm (nth l (i : Int))).toNat : Int)
     ·skip
      refine any_takes [7, 8, 9, 10, 11, 12, 13, 14, 15, 16] (by kernel_rfl) hH12 _ _ _ (by kernel_rfl) ?_
      refine qW rfl rfl rfl (dT hc13) rfl rfl ?_
      refine qW rfl rfl rfl (dT hc13) rfl rfl ?_
      refine qs_yes rfl rfl rfl (dT hc13) rfl (yv_index T.sl56 rfl rfl (h0.now hH12 (n := 1) rfl).is (by omega)) ?_
      refine qs_yes rfl rfl rfl (dT hc13) rfl (yv_load T.one9 rfl (fun _ hw => Rd.at (h0.now hw (n := 1) rfl) (i := (j : Int)) (by omega) (j := 0) rfl)) ?_
      refine qW rfl rfl rfl (dT hc13) rfl rfl ?_
      refine qW rfl rfl rfl (dT hc13) rfl rfl ?_
      refine qs_yes rfl rfl rfl (dT hc13) rfl (yv_index T.sl56 rfl rfl (h0.now hH12 (n := 1) rfl).is (by omega)) ?_
      refine qs_yes rfl rfl rfl (dT hc13) rfl (yv_load T.one9 rfl (fun _ hw => Rd.at (h0.now hw (n := 1) rfl) (i := (i : Int)) (by omega) (j := 0) rfl)) ?_
      refine qs_yes rfl rfl rfl (dT hc13) rfl (yv_neqS rfl rfl) ?_
      refine qs_y rfl rfl (yv_pick_t rfl (dT hc13) rfl) ?_
      refine qs_nil ?_
      refine any_done (by kernel_rfl) ?_
      refine thn_n ?_
      by_cases hc14 : (nth l (j : Int)) = (nth l (i : Int))
      ·skip
       refine cond_f rfl (not_decide_n hc14) ?_
       refine skip (blk_n (thn_n ?_))
       have hno : ¬ (B.sm (nth l (j : Int)) = B.sm (nth l (i : Int)) ∧ ¬ nth l (j : Int) = nth l (i : Int)) := by rw [← hnm (by omega)]; first | exact fun h => h.2 ‹_› | exact fun h => word_ne ‹_› h.1
       refine region (oM hH12 rfl rfl ?_)
       refine ops_y hH12 rfl rfl (yv_add rfl rfl (by omega)) ?_
       refine oA hH12 rfl rfl (ops_nil ?_)
       refine lp_n (j + 1) (uC rfl (uC rfl (uC rfl (uC rfl (uC rfl (Sub.nil _)))))) ?_ ?_
       ·exact ⟨hH12, by omega, B.all_snoc hal2 hno⟩
       ·first | (dsimp only; omega) | (show _ < _; omega)
      ·skip
       refine cond_t rfl (not_decide_t hc14) ?_
       refine seq ?_
       have hnj := hnm (by omega)
       have hco : B.coll l := ⟨i, by omega, j, by omega, by rw [← hnj]; exact word_eq ‹_›, ‹_›⟩
       refine region (oA hH12 rfl rfl (ops_nil (thn_n (ret (blk_r (thn_r (lp_r (blk_r (thn_r ?_)))))))))
       refine blk_r (thn_r (lp_r (blk_r (thn_r ?_))))
       have hH15 := (hH12.sub (sC sR))
       refine fin hH15 (fun w' hf => (res1 rfl (show RV _ _ _ (.tmp 2) _ from rfl))) (fun w' hf => ?_)
       first | exact congrArg Value.bool (dT hco).symm | exact congrArg Value.bool (dF hnc).symm
     ·skip
      refine any_takes [7, 8, 9, 10, 11, 12, 13, 14, 15, 16] (by kernel_rfl) hH12 _ _ _ (by kernel_rfl) ?_
      refine qs_no rfl rfl rfl (dF hc13) rfl ?_
      refine qs_no rfl rfl rfl (dF hc13) rfl ?_
      refine qs_no rfl rfl rfl (dF hc13) rfl ?_
      refine qs_no rfl rfl rfl (dF hc13) rfl ?_
      refine qs_no rfl rfl rfl (dF hc13) rfl ?_
      refine qs_no rfl rfl rfl (dF hc13) rfl ?_
      refine qs_no rfl rfl rfl (dF hc13) rfl ?_
      refine qs_no rfl rfl rfl (dF hc13) rfl ?_
      refine qs_no rfl rfl rfl (dF hc13) rfl ?_
      refine qs_y rfl rfl (yv_pick_f rfl (dF hc13) rfl) ?_
      refine qs_nil ?_
      refine any_done (by kernel_rfl) ?_
      refine thn_n ?_
      refine cond_f rfl rfl ?_
      refine skip (blk_n (thn_n ?_))
      have hno : ¬ (B.sm (nth l (j : Int)) = B.sm (nth l (i : Int)) ∧ ¬ nth l (j : Int) = nth l (i : Int)) := by rw [← hnm (by omega)]; first | exact fun h => h.2 ‹_› | exact fun h => word_ne ‹_› h.1
      refine region (oM hH12 rfl rfl ?_)
      refine ops_y hH12 rfl rfl (yv_add rfl rfl (by omega)) ?_
      refine oA hH12 rfl rfl (ops_nil ?_)
      refine lp_n (j + 1) (uC rfl (uC rfl (uC rfl (uC rfl (uC rfl (Sub.nil _)))))) ?_ ?_
      ·exact ⟨hH12, by omega, B.all_snoc hal2 hno⟩
      ·first | (dsimp only; omega) | (show _ < _; omega)
    ·skip
     refine cond_f rfl (dF hc9) ?_
     refine exit (thn_x (lp_x (blk_here (thn_n (region (oM hH8 rfl rfl (oM hH8 rfl rfl ?_)))))))
     refine op_lit (us := [(0, (.int .u64 ((B.sm (nth l (i : Int))).toNat : Int)))]) T.el39_encW [B.sm (nth l (i : Int))] rfl (by decide) rfl (fun a ha => by simp [ha.ev (show ev _ (.tmp 41) = some _ from rfl)]) (fun w => by kernel_rfl) hH8 (fun u16 lo18 hi19 w17 hH20 => ?_)
     refine op_append (n := 1) T.el39_encW rfl rfl rfl hH20 rfl (Heap.rdw T.el39_encW hH20 (n := 0) rfl) (by first | omega | (simp only [List.length_append, List.length_cons, List.length_nil]; omega)) (fun u21 lo23 hi24 w22 hH25 => ?_)
     refine oA hH25 rfl rfl (ops_nil (blk_n (thn_n (region (oM hH25 rfl rfl ?_)))))
     refine ops_y hH25 rfl rfl (yv_add rfl rfl (by omega)) ?_
     refine oA hH25 rfl rfl (ops_nil ?_)
     have hH26 := (hH25.sub (sC sR))
     refine lp_n (i + 1, u21, lo23, hi24) (uC rfl (uC rfl (uC rfl (Sub.nil _)))) ?_ ?_
     ·exact ⟨(Heap.recast (n := 0) hH26 rfl (B.map_sm_succ (by omega))), by omega, B.all_snoc hall (fun j2 hj2 => hal2 j2 (by omega))⟩
     ·first | (dsimp only; omega) | (show _ < _; omega)
  ·skip
   refine cond_f rfl (dF hc4) ?_
   refine exit (thn_x (lp_x (blk_here (thn_n (seq ?_)))))
   have hnc : ¬ B.coll l := fun h => by obtain ⟨i2, h1, j2, h2, h3, h4⟩ := h; exact hall i2 (by omega) j2 h2 ⟨h3, h4⟩
   refine region (oA hH3 rfl rfl (ops_nil (thn_n (ret ?_))))
   have hH27 := (hH3.sub (sC sR))
   refine fin hH27 (fun w' hf => (res1 rfl (show RV _ _ _ (.tmp 2) _ from rfl))) (fun w' hf => ?_)
   first | exact congrArg Value.bool (dT hco).symm | exact congrArg Value.bool (dF hnc).symm
theorem B.strs_len1 : ∀ (n : Nat) (l : List En), l.length = n → 1 ≤ n → (B.strs l).length + 1 ≤ 2 * n := by
 intro n
 induction n using Nat.strongRecOn with
 | _ n ih =>
  intro l hl hn
  by_cases h1 : n = 1
  ·rw [B.strs_one (by omega)]; simp; omega
  ·have hh := B.half_lt (n := n) (by omega)
   rw [B.strs_two (by omega), hl]
   have e1 := ih (B.half n) (by omega) (l.take (B.half n)) (by rw [List.length_take]; omega) (by omega)
   have e2 := ih (n - B.half n) (by omega) (l.drop (B.half n)) (by rw [List.length_drop]; omega) (by omega)
   simp only [List.length_append, List.length_cons, List.length_nil]
   omega
theorem B.strs_len (n : Nat) (l : List En) (hl : l.length = n) : (B.strs l).length ≤ 2 * n + 1 := by
 by_cases h0 : n = 0
 ·rw [B.strs_nil (by omega)]; simp
 ·have := B.strs_len1 n l hl (by omega); omega
theorem B.strs_each : ∀ (n : Nat) (l : List En), l.length = n → B.InR l → ∀ x ∈ B.strs l, x.length ≤ 1000 := by
 intro n
 induction n using Nat.strongRecOn with
 | _ n ih =>
  intro l hl hin x hx
  by_cases h0 : n = 0
  ·rw [B.strs_nil (by omega)] at hx; rw [List.mem_singleton] at hx; subst hx; simp
  by_cases h1 : n = 1
  ·rw [B.strs_one (by omega)] at hx; rw [List.mem_singleton] at hx; subst hx
   have := B.leaf_len (B.text_len (hin 0 (by omega)))
   exact Nat.le_trans this (by decide)
  ·have hh := B.half_lt (n := n) (by omega)
   rw [B.strs_two (by omega), hl] at hx
   rcases List.mem_append.1 hx with hx | hx
   ·rcases List.mem_append.1 hx with hx | hx
    ·exact ih (B.half n) (by omega) _ (by rw [List.length_take]; omega) (B.inR_take hin _) x hx
    ·exact ih (n - B.half n) (by omega) _ (by rw [List.length_drop]; omega) (B.inR_drop hin _) x hx
   ·rw [List.mem_singleton] at hx; subst hx; rw [B.both_len]; omega
theorem c48r {v : Value} {l : List En} {w : World} (h0 : Rd encE 5 v l w) (hn : l.length ≤ 64) (hin : B.InR l) (ih : ∀ {v1 : Value} {l1 : List En} {w1 : World}, Rd encE 5 v1 l1 w1 → l1.length < l.length → l1.length ≤ 64 → B.InR l1 → Fn Tryz.prog 48 #[v1] w1 (fun u w => Own 9 1 encT u (B.strs l1) w))  :
  Fn Tryz.prog 48 [v].toArray w (fun u w => Own 9 1 encT u (B.strs l) w) := by
 refine fn_of' (args := [v]) Tryz.func48 rfl (ent Tryz.func48 (by kernel_rfl) rfl) rfl rfl (fun hH => ?_)
 refine seq (region (oA hH rfl rfl (ops_nil (thn_n (seq (seq (region (oM hH rfl rfl ?_))))))))
 refine ops_y hH rfl rfl (yv_len T.sl22 rfl (h0.now hH (n := 0) rfl).is) ?_
 refine ops_y hH rfl rfl (yv_eql rfl rfl) ?_
 refine ops_nil (thn_n ?_)
 by_cases hc1 : (l.length : Int) = 0
 ·skip
  refine cond_t rfl (dT hc1) ?_
  refine seq (region ?_)
  refine op_lit (us := [(0, (str ([] : List UInt8)))]) T.el56_encT [([] : List UInt8)] rfl (by decide) rfl (fun a ha => by simp [ha.ev (show ev _ (.const (str ([] : List UInt8))) = some _ from rfl)] <;> rfl) (fun w => by kernel_rfl) hH (fun u2 lo4 hi5 w3 hH6 => ?_)
  refine oA hH6 rfl rfl (ops_nil (thn_n (ret (thn_r ?_))))
  refine fin (hH6.front (n := 1) rfl) (fun w' hf => (res1 rfl (show RV _ _ _ (.tmp 2) _ from rfl))) (fun w' hf => ?_)
  first | (rw [B.strs_nil (by omega)]; exact Heap.own hf (n := 0) rfl) | (rw [B.strs_one (by omega)]; exact Heap.own hf (n := 0) rfl) | (rw [B.strs_two (by omega)]; exact Heap.own hf (n := 0) rfl)
 ·skip
  refine cond_f rfl (dF hc1) ?_
  refine skip (thn_n (seq (seq ?_)))
  have hne : ¬ l.length = 0 := by omega
  refine region (oM hH rfl rfl ?_)
  refine ops_y hH rfl rfl (yv_len T.sl22 rfl (h0.now hH (n := 0) rfl).is) ?_
  refine ops_y hH rfl rfl (yv_eql rfl rfl) ?_
  refine ops_nil (thn_n ?_)
  by_cases hc7 : (l.length : Int) = 1
  ·skip
   refine cond_t rfl (dT hc7) ?_
   refine seq ?_
   have hl1 : l.length = 1 := by omega
   have he0 := hin 0 (by omega)
   refine region (oM hH rfl rfl ?_)
   refine ops_y hH rfl rfl (yv_index T.sl22 rfl rfl (h0.now hH (n := 0) rfl).is (by omega)) ?_
   refine ops_y hH rfl rfl (yv_loadA (cs := [(.int .i64 ((nth l 0).n)), (.int .i64 ((nth l 0).d)), (.int .i64 ((nth l 0).f)), (.int .i64 ((nth l 0).t)), (.int .i64 ((nth l 0).a))]) T.agg38 rfl rfl (fun _ hw => Rd.atA (h0.now hw (n := 0) rfl) (i := 0) (by omega))) ?_
   refine op_fnV rfl rfl rfl hH (c95 (e := (nth l 0)) he0) (fun w8 hH9 => ?_)
   refine op_lit (us := [(0, (str (B.leaf (nth l 0))))]) T.el56_encT [(B.leaf (nth l 0))] rfl (by decide) rfl (fun a ha => by simp [ha.ev (show ev _ (.tmp 15) = some _ from rfl)] <;> rfl) (fun w => by kernel_rfl) hH9 (fun u10 lo12 hi13 w11 hH14 => ?_)
   refine oA hH14 rfl rfl (ops_nil (thn_n (ret (thn_r ?_))))
   refine fin (hH14.front (n := 1) rfl) (fun w' hf => (res1 rfl (show RV _ _ _ (.tmp 2) _ from rfl))) (fun w' hf => ?_)
   first | (rw [B.strs_nil (by omega)]; exact Heap.own hf (n := 0) rfl) | (rw [B.strs_one (by omega)]; exact Heap.own hf (n := 0) rfl) | (rw [B.strs_two (by omega)]; exact Heap.own hf (n := 0) rfl)
  ·skip
   refine cond_f rfl (dF hc7) ?_
   refine skip (thn_n (seq ?_))
   have hl2 : 2 ≤ l.length := by omega
   have hbh := B.half_lt hl2
   refine region (oM hH rfl rfl ?_)
   refine ops_y hH rfl rfl (yv_len T.sl22 rfl (h0.now hH (n := 0) rfl).is) ?_
   refine op_fnV rfl rfl rfl hH (c96 (by omega)) (fun w15 hH16 => ?_)
   refine oA hH16 rfl rfl (ops_nil (thn_n (seq ?_)))
   have hsl := B.strs_len _ (l.take (B.half l.length : Int).toNat) rfl
   have hsd := B.strs_len _ (l.drop (B.half l.length : Int).toNat) rfl
   have htk : (l.take (B.half l.length : Int).toNat).length ≤ 64 := by rw [List.length_take]; omega
   have htd : (l.drop (B.half l.length : Int).toNat).length ≤ 64 := by rw [List.length_drop]; omega
   refine region_drawY (fun w' => Heap [base w] w') [8] T.mixed (fun w17 hr18 => ?_)
   have hH19 := hH16.redrawn hr18
   refine any_takesT [0, 1, 2, 4, 5, 6] (by kernel_rfl)  _ _ _ (by kernel_rfl) ?_
   refine qM rfl rfl rfl (qM rfl rfl rfl ?_)
   refine qs_y rfl rfl (yv_cut_hi T.sl22 rfl rfl (h0.now hH19 (n := 0) rfl).is (by omega)) ?_
   refine qM rfl rfl rfl (qM rfl rfl rfl ?_)
   refine qs_y rfl rfl (yv_cut_lo T.sl22 rfl rfl (h0.now hH19 (n := 0) rfl).is (by omega)) ?_
   refine qs_nil ?_
   refine any_allY [3] (by kernel_rfl) rfl ?_
   refine ⟨⟨_, rfl, ?_⟩, trivial⟩
   ·skip
    refine op_fn rfl rfl rfl hH19 (ih (Rd.upto (h0.now hH19 (n := 0) rfl) (hi := (B.half l.length : Int).toNat) (by omega)) (by first | (rw [List.length_take]; omega) | (rw [List.length_drop]; omega)) (by first | (rw [List.length_take]; omega) | (rw [List.length_drop]; omega)) (by first | exact B.inR_take hin _ | exact B.inR_drop hin _)) (fun u22 w20 lo23 hi24 hH21 hv25 => ?_)
    have hH26 := Heap.toOw hH21 (n := 0) rfl
    refine ops_nil ?_
    refine ⟨fun _ _ => (hH26.sub (sC sR)), ?_⟩
    refine any_allY [7] (by kernel_rfl) rfl ?_
    refine ⟨⟨_, rfl, ?_⟩, trivial⟩
    ·skip
     refine op_fn rfl rfl rfl hH26 (ih (Rd.from (h0.now hH26 (n := 1) rfl) (lo := (B.half l.length : Int).toNat) (by omega)) (by first | (rw [List.length_take]; omega) | (rw [List.length_drop]; omega)) (by first | (rw [List.length_take]; omega) | (rw [List.length_drop]; omega)) (by first | exact B.inR_take hin _ | exact B.inR_drop hin _)) (fun u29 w27 lo30 hi31 hH28 hv32 => ?_)
     have hH33 := Heap.toOw hH28 (n := 0) rfl
     refine ops_nil ?_
     refine ⟨fun _ _ => (hH33.sub (sC (sC sR))), ?_⟩
     refine any_allY [8] (by kernel_rfl) rfl ?_
     refine ⟨⟨_, rfl, ?_⟩, trivial⟩
     ·skip
      refine op_append (n := 1) T.el56_encT rfl rfl rfl hH33 rfl (Heap.rdw T.el56_encT hH33 (n := 0) rfl) (by first | omega | (simp only [List.length_append, List.length_cons, List.length_nil]; omega)) (fun u34 lo36 hi37 w35 hH38 => ?_)
      refine ops_nil ?_
      refine ⟨(fun h => by cases h), ?_⟩
      refine any_takesT [9] (by kernel_rfl)  _ _ _ (by kernel_rfl) ?_
      refine qs_y rfl rfl (yv_assign rfl) (qs_nil ?_)
      refine any_doneY (by kernel_rfl) ?_
      refine thn_n (seq ?_)
      refine region_drawY (fun w' => Heap [base w] w') [11] T.mixed (fun w39 hr40 => ?_)
      have hH41 := hH38.redrawn hr40
      refine any_takesT [0, 1, 2, 3, 5, 6, 7] (by kernel_rfl)  _ _ _ (by kernel_rfl) ?_
      refine qM rfl rfl rfl (qM rfl rfl rfl (qM rfl rfl rfl ?_))
      refine qs_y rfl rfl (yv_cut_hi T.sl22 rfl rfl (h0.now hH41 (n := 2) rfl).is (by omega)) ?_
      refine qM rfl rfl rfl (qM rfl rfl rfl ?_)
      refine qs_y rfl rfl (yv_cut_lo T.sl22 rfl rfl (h0.now hH41 (n := 2) rfl).is (by omega)) ?_
      refine qs_nil ?_
      refine any_allY [4] (by kernel_rfl) rfl ?_
      refine ⟨⟨_, rfl, ?_⟩, trivial⟩
      ·skip
       refine op_fnV rfl rfl rfl hH41 (c44 (Rd.upto (h0.now hH41 (n := 2) rfl) (hi := (B.half l.length : Int).toNat) (by omega)) (by first | (rw [List.length_take]; omega) | (rw [List.length_drop]; omega)) (by first | exact B.inR_take hin _ | exact B.inR_drop hin _)) (fun w42 hH43 => ?_)
       refine ops_nil ?_
       refine ⟨fun _ _ => (hH43.sub (sC (sC sR))), ?_⟩
       refine any_allY [8] (by kernel_rfl) rfl ?_
       refine ⟨⟨_, rfl, ?_⟩, trivial⟩
       ·skip
        refine op_fnV rfl rfl rfl hH43 (c44 (Rd.from (h0.now hH43 (n := 2) rfl) (lo := (B.half l.length : Int).toNat) (by omega)) (by first | (rw [List.length_take]; omega) | (rw [List.length_drop]; omega)) (by first | exact B.inR_take hin _ | exact B.inR_drop hin _)) (fun w44 hH45 => ?_)
        refine ops_nil ?_
        refine ⟨fun _ _ => (hH45.sub (sC (sC sR))), ?_⟩
        refine any_allY [9] (by kernel_rfl) rfl ?_
        refine ⟨⟨_, rfl, ?_⟩, trivial⟩
        ·skip
         refine op_fnV rfl rfl rfl hH45 (c97 ) (fun w46 hH47 => ?_)
         refine ops_nil ?_
         refine ⟨fun _ _ => (hH47.sub (sC (sC sR))), ?_⟩
         refine any_allY [10] (by kernel_rfl) rfl ?_
         refine ⟨⟨_, rfl, ?_⟩, trivial⟩
         ·skip
          refine op_lit (us := [(0, (str (B.both (B.root (l.take (B.half l.length : Int).toNat)) (B.root (l.drop (B.half l.length : Int).toNat)))))]) T.el56_encT [(B.both (B.root (l.take (B.half l.length : Int).toNat)) (B.root (l.drop (B.half l.length : Int).toNat)))] rfl (by decide) rfl (fun a ha => by simp [ha.ev (show ev _ (.tmp 38) = some _ from rfl)] <;> rfl) (fun w => by kernel_rfl) hH47 (fun u48 lo50 hi51 w49 hH52 => ?_)
          refine ops_nil ?_
          refine ⟨fun _ _ => (hH52.sub (sC (sC (sC sR)))), ?_⟩
          refine any_allY [11] (by kernel_rfl) rfl ?_
          refine ⟨⟨_, rfl, ?_⟩, trivial⟩
          ·skip
           refine op_append (n := 2) T.el56_encT rfl rfl rfl hH52 rfl (Heap.rdw T.el56_encT hH52 (n := 0) rfl) (by first | omega | (simp only [List.length_append, List.length_cons, List.length_nil]; omega)) (fun u53 lo55 hi56 w54 hH57 => ?_)
           refine ops_nil ?_
           refine ⟨(fun h => by cases h), ?_⟩
           refine any_takesT [12] (by kernel_rfl)  _ _ _ (by kernel_rfl) ?_
           refine qs_y rfl rfl (yv_assign rfl) (qs_nil ?_)
           refine any_doneY (by kernel_rfl) ?_
           refine thn_n (ret ?_)
           have hH58 := (hH57.sub (sC (sC sR)))
           refine fin (hH58.front (n := 1) rfl) (fun w' hf => (res1 rfl (show RV _ _ _ (.tmp 2) _ from rfl))) (fun w' hf => ?_)
           first | (rw [B.strs_nil (by omega)]; exact Heap.own hf (n := 0) rfl) | (rw [B.strs_one (by omega)]; exact Heap.own hf (n := 0) rfl) | (rw [B.strs_two (by omega)]; exact Heap.own hf (n := 0) rfl)
theorem c48 {v : Value} {l : List En} {w : World} (h0 : Rd encE 5 v l w) (hn : l.length ≤ 64) (hin : B.InR l) : Fn Tryz.prog 48 #[v] w (fun u w => Own 9 1 encT u (B.strs l) w) := by
 induction hl : l.length using Nat.strongRecOn generalizing v l w with
 | _ n ih =>
  subst hl
  exact c48r h0 hn hin (fun k1 k2 k3 k4 => ih _ k2 k1 k3 k4 rfl)
end Go.Fip
namespace Go.Fip.B
open Go.Fip
theorem half_lg : ∀ k, k ≤ 5 → ∀ n, n ≤ 32 → 2 ≤ n → n ≤ 2 ^ (k + 1) → half n ≤ 2 ^ k ∧ n - half n ≤ 2 ^ k := by decide
theorem hv_lg : ∀ (k n i : Nat), k ≤ 5 → n ≤ 2 ^ k → (hv i n).length ≤ k := by
  intro k
  induction k with
  | zero =>
    intro n i _ h
    rw [hv_done (by simpa using h)]; simp
  | succ k ih =>
    intro n i hk h
    by_cases h1 : n ≤ 1
    · rw [hv_done h1]; simp
    · have h32 : n ≤ 32 := Nat.le_trans h (Nat.le_trans (Nat.pow_le_pow_right (by decide) hk) (by decide))
      obtain ⟨ha, hb⟩ := half_lg k (by omega) n h32 (by omega) h
      rw [hv_cons (by omega), List.length_cons]
      split
      · have := ih (half n) i (by omega) ha; omega
      · have := ih (n - half n) (i - half n) (by omega) hb; omega
theorem path5 {l : List En} {i : Nat} (h : l.length ≤ 24) : (path l i).length ≤ 5 := by
  rw [path_hv]; exact hv_lg 5 _ _ (Nat.le_refl _) (by omega)
theorem st_self : ∀ (n i : Nat) (l : List En), l.length = n → i < n → (st (nth l (i : Int)) i n (path l i)).2 = true ∧ sm (lastS (st (nth l (i : Int)) i n (path l i)).1) = root l := by
  intro n
  induction n using Nat.strongRecOn with
  | _ n ih =>
    intro i l hl hi
    by_cases h1 : n = 1
    · subst h1
      have h0 : i = 0 := by omega
      subst h0
      rw [path_one (by omega), st_one]
      refine ⟨rfl, ?_⟩
      rw [root_one hl]; rfl
    · have hh := half_lt (n := n) (by omega)
      by_cases hlt : i < half n
      · have hp := path_left (l := l) (i := i) (by omega) (by rw [hl]; exact hlt)
        rw [hl] at hp
        obtain ⟨i1, i2⟩ := ih (half n) (by omega) i (l.take (half n)) (by rw [List.length_take]; omega) hlt
        have hn : nth (l.take (half n)) (i : Int) = nth l (i : Int) := by rw [nth_nat (by rw [List.length_take]; omega), nth_nat (by omega), List.getElem_take]
        rw [hn] at i1 i2
        have ht : (path l i).take ((path l i).length - 1) = path (l.take (half n)) i := by rw [hp]; simp
        have hlw : lastW (path l i) = root (l.drop (half n)) := by rw [hp, lastW_snoc]
        have hlen : 1 ≤ (path l i).length := by rw [hp]; simp
        have e1 := st_l1 (e := nth l (i : Int)) (i := i) (n := n) (p := path l i) (by omega) hlen hlt (by rw [ht]; exact i1)
        rw [ht, hlw, i2] at e1
        refine ⟨(congrArg Prod.snd e1).trans rfl, ?_⟩
        have e2 : (st (nth l (i : Int)) i n (path l i)).1 = _ := congrArg Prod.fst e1
        rw [e2, root_two (l := l) (by omega), hl]
        exact congrArg sm lastS_snoc
      · have hp := path_right (l := l) (i := i) (by omega) (by rw [hl]; exact hlt)
        rw [hl] at hp
        obtain ⟨i1, i2⟩ := ih (n - half n) (by omega) (i - half n) (l.drop (half n)) (by rw [List.length_drop]; omega) (by omega)
        have hn : nth (l.drop (half n)) ((i - half n : Nat) : Int) = nth l (i : Int) := by
          have h5 : nth (l.drop (half n)) ((i - half n : Nat) : Int) = nth l ((half n + (i - half n) : Nat) : Int) := by
            rw [nth_nat (by rw [List.length_drop]; omega), nth_nat (by omega), List.getElem_drop]
          have h6 : half n + (i - half n) = i := by omega
          rw [h6] at h5
          exact h5
        rw [hn] at i1 i2
        have ht : (path l i).take ((path l i).length - 1) = path (l.drop (half n)) (i - half n) := by rw [hp]; simp
        have hlw : lastW (path l i) = root (l.take (half n)) := by rw [hp, lastW_snoc]
        have hlen : 1 ≤ (path l i).length := by rw [hp]; simp
        have e1 := st_r1 (e := nth l (i : Int)) (i := i) (n := n) (p := path l i) (by omega) hlen hlt (by rw [ht]; exact i1)
        rw [ht, hlw, i2] at e1
        refine ⟨(congrArg Prod.snd e1).trans rfl, ?_⟩
        have e2 : (st (nth l (i : Int)) i n (path l i)).1 = _ := congrArg Prod.fst e1
        rw [e2, root_two (l := l) (by omega), hl]
        exact congrArg sm lastS_snoc
theorem bk_ckE {l : List En} (h : ck l = 0) {i : Nat} (hi : i < l.length) : ckE (nth l (i : Int)) = 0 := by
  obtain ⟨_, h1, h2, _⟩ := ck_iff.1 h
  exact ckE_iff.2 ⟨h1 i hi, h2 i hi⟩
theorem cp_self {l : List En} (h : ck l = 0) {i : Nat} (hi : i < l.length) : cp (nth l (i : Int)) (i : Int) (l.length : Int) (path l i) (root l) = 0 := by
  have h24 := (ck_iff.1 h).1
  refine cp5 (bk_ckE h hi) (by omega) (by omega) ?_
  have := st_self l.length i l rfl hi
  simpa only [Int.toNat_natCast] using this
theorem cp_zero {e : En} {i n : Nat} {p : List UInt64} {r : UInt64} (hi : i < n) (hn : n ≤ 24) (h : cp e (i : Int) (n : Int) p r = 0) : ckE e = 0 ∧ (st e i n p).2 = true ∧ sm (lastS (st e i n p).1) = r := by
  by_cases h1 : ckE e = 0
  · by_cases h2 : (st e (i : Int).toNat (n : Int).toNat p).2 = true ∧ sm (lastS (st e (i : Int).toNat (n : Int).toNat p).1) = r
    · exact ⟨h1, by simpa only [Int.toNat_natCast] using h2⟩
    · rw [cp4 h1 (by omega) (by omega) h2] at h; omega
  · rw [cp1 h1] at h; exact absurd h h1
theorem cp_range {e : En} {i n : Nat} {p : List UInt64} {r : UInt64} (hi : i < n) (hn : n ≤ 24) : (¬ ckE e = 0 → cp e (i : Int) (n : Int) p r = ckE e) ∧ (ckE e = 0 → cp e (i : Int) (n : Int) p r = 0 ∨ cp e (i : Int) (n : Int) p r = 25) := by
  refine ⟨fun h => cp1 h, fun h => ?_⟩
  by_cases h2 : (st e (i : Int).toNat (n : Int).toNat p).2 = true ∧ sm (lastS (st e (i : Int).toNat (n : Int).toNat p).1) = r
  · exact .inl (cp5 h (by omega) (by omega) h2)
  · exact .inr (cp4 h (by omega) (by omega) h2)
theorem proved_coll {l : List En} {e : En} {i : Nat} {p : List UInt64} (h : ck l = 0) (hi : i < l.length) (hz : cp e (i : Int) (l.length : Int) p (root l) = 0) (hne : ¬ e = nth l (i : Int)) : coll (strs l ++ (st e i l.length p).1) := by
  obtain ⟨h24, hin, _⟩ := ck_iff.1 h
  obtain ⟨h1, h2, h3⟩ := cp_zero hi h24 hz
  refine Decidable.byContradiction fun hc => hne ?_
  have hinj := inj_of hc
  exact st_eq hinj (ckE_iff.1 h1).1 l.length i p l rfl hi hin (fun x hx => List.mem_append_left _ hx) (fun x hx => List.mem_append_right _ hx) h2 h3
end Go.Fip.B
namespace Go.Fip
open Go.Proofs Go.RowKit
theorem B.ss_len {l : List En} {e : En} {i n : Nat} {q : List UInt64} (hl : l.length ≤ 24) (hq : q.length ≤ 1000) (hn : 1 ≤ n) (hok : (B.st e i n q).2 = true) : (B.strs l ++ (B.st e i n q).1).length ≤ 1000000 := by
 have h1 := B.strs_len l.length l rfl
 have h2 := ((B.st_ok (e := e) n i q hn).2 hok).2
 rw [List.length_append]; omega
theorem B.ss_each {l : List En} {e : En} {i n : Nat} {q : List UInt64} (hin : B.InR l) (he : B.isEn e) (hn : 1 ≤ n) : ∀ x ∈ B.strs l ++ (B.st e i n q).1, x.length ≤ 1000 := fun x hx => by
 rcases List.mem_append.1 hx with hx | hx
 ·exact B.strs_each l.length l rfl hin x hx
 ·exact Nat.le_trans (B.st_len (B.leaf_len (B.text_len he)) n i q hn x hx) (by decide)
theorem c8 {v u : Value} {l : List En} {p : List UInt64} {w : World} (h0 : Rd encE 5 v l w) (h1 : Rd encW 1 u p w) (hG : Gl w) {a : Int} {e : En} (ha : 0 ≤ a ∧ a ≤ 255)  :
  Fn Tryz.prog 8 [(.agg #[v]), (.int .u8 a), (.agg #[(.int .i64 e.n), (.int .i64 e.d), (.int .i64 e.f), (.int .i64 e.t), (.int .i64 e.a)]), u].toArray w (fun u _ => u = .bool true) := by
 refine fn_of' (args := [(.agg #[v]), (.int .u8 a), (.agg #[(.int .i64 e.n), (.int .i64 e.d), (.int .i64 e.f), (.int .i64 e.t), (.int .i64 e.a)]), u]) Tryz.func8 rfl (ent Tryz.func8 (by kernel_rfl) rfl) rfl rfl (fun hH => ?_)
 refine seq (region ?_)
 refine op_box (us := [v]) rfl rfl rfl hH (fun b1 w2 hH3 => ?_)
 refine op_box (us := [(.int .i64 e.n), (.int .i64 e.d), (.int .i64 e.f), (.int .i64 e.t), (.int .i64 e.a)]) rfl rfl rfl hH3 (fun b4 w5 hH6 => ?_)
 refine oA hH6 rfl rfl (ops_nil (thn_n (seq (seq (region ?_)))))
 refine ops_y hH6 rfl rfl (yv_loadA (cs := [v]) T.agg24 rfl rfl (fun _ hw => Heap.cellsw hw (n := 1) rfl (k := 0) rfl)) ?_
 refine op_fnV rfl rfl rfl hH6 (c43 (h0.now hH6 (n := 2) rfl)) (fun w7 hH8 => ?_)
 refine ops_y hH8 rfl rfl (yv_not rfl) ?_
 refine oM hH8 rfl rfl ?_
 by_cases hc9 : B.ck l = 0
 ·skip
  refine guard_yes rfl rfl (not_decide_n hc9) ?_
  refine ops_y hH8 rfl rfl (yv_field T.f24_0 rfl) ?_
  refine guard_yes rfl rfl (not_decide_n hc9) ?_
  refine ops_y hH8 rfl rfl (yv_load T.one22 rfl (fun _ hw => Heap.cellw hw (n := 1) rfl rfl)) ?_
  refine guard_yes rfl rfl (not_decide_n hc9) ?_
  refine ops_y hH8 rfl rfl (yv_len T.sl22 rfl (h0.now hH8 (n := 2) rfl).is) ?_
  refine guard_yes rfl rfl (not_decide_n hc9) ?_
  refine ops_y hH8 rfl rfl (yv_eql rfl rfl) ?_
  refine ops_y hH8 rfl rfl (yv_pick_f rfl (not_decide_n hc9) rfl) ?_
  refine oM hH8 rfl rfl ?_
  by_cases hc10 : (l.length : Int) = 0
  ·skip
   refine guard_no rfl rfl (dT hc10) rfl ?_
   refine guard_no rfl rfl (dT hc10) rfl ?_
   refine guard_no rfl rfl (dT hc10) rfl ?_
   refine ops_y hH8 rfl rfl (yv_pick_t rfl (dT hc10) rfl) ?_
   refine ops_nil (thn_n ?_)
   refine cond_t rfl rfl ?_
   refine seq (region ?_)
   refine op_fnV rfl rfl rfl hH8 (c18 (hG.now hH8 (n := 2) rfl)) (fun w11 hH12 => ?_)
   refine oA hH12 rfl rfl (ops_nil (thn_n (ret (thn_r ?_))))
   have hH13 := (hH12.sub (sC (sC sR)))
   refine fin hH13 (fun w' hf => (res1 rfl (show RV _ _ _ (.tmp 8) _ from rfl))) (fun w' hf => ?_)
   first | rfl | exact hbad.elim
  ·skip
   refine guard_yes rfl rfl (dF hc10) ?_
   refine oM hH8 rfl rfl ?_
   refine guard_yes rfl rfl (dF hc10) ?_
   refine ops_y hH8 rfl rfl (yv_len T.sl39 rfl (h1.now hH8 (n := 2) rfl).is) ?_
   refine guard_yes rfl rfl (dF hc10) ?_
   refine ops_y hH8 rfl rfl (yv_gtr rfl rfl) ?_
   refine ops_y hH8 rfl rfl (yv_pick_f rfl (dF hc10) rfl) ?_
   refine ops_nil (thn_n ?_)
   by_cases hc14 : 12 < (p.length : Int)
   ·skip
    refine cond_t rfl (dT hc14) ?_
    refine seq (region ?_)
    refine op_fnV rfl rfl rfl hH8 (c18 (hG.now hH8 (n := 2) rfl)) (fun w15 hH16 => ?_)
    refine oA hH16 rfl rfl (ops_nil (thn_n (ret (thn_r ?_))))
    have hH17 := (hH16.sub (sC (sC sR)))
    refine fin hH17 (fun w' hf => (res1 rfl (show RV _ _ _ (.tmp 8) _ from rfl))) (fun w' hf => ?_)
    first | rfl | exact hbad.elim
   ·skip
    refine cond_f rfl (dF hc14) ?_
    refine skip (thn_n (seq ?_))
    have hc0 : B.ck l = 0 := by first | assumption | exact Decidable.not_not.1 ‹_›
    have hbk := B.ck_iff.1 hc0
    have hin0 := hbk.2.1
    have hl24 := hbk.1
    have hl1 : 1 ≤ l.length := by omega
    have hro := B.ro2 hc0
    have hp12 : p.length ≤ 12 := by omega
    obtain ⟨i, hi⟩ : ∃ i : Nat, (i : Int) = a % (l.length : Int) := ⟨(a % (l.length : Int)).toNat, Int.toNat_of_nonneg (Int.emod_nonneg _ (by omega))⟩
    have hil : i < l.length := by have := Int.emod_lt_of_pos a (show (0 : Int) < (l.length : Int) by omega); omega
    have hpr := B.pa3 (l := l) (i := (i : Int)) hc0 (by omega)
    have hpl := B.path5 (l := l) (i := i) hl24
    have hcs := B.cp_self hc0 hil
    have hpe : B.pathR l (i : Int) = (B.path l i, 0) := hpr
    refine region ?_
    refine ops_y hH8 rfl rfl (yv_field T.f24_0 rfl) ?_
    refine ops_y hH8 rfl rfl (yv_load T.one22 rfl (fun _ hw => Heap.cellw hw (n := 1) rfl rfl)) ?_
    refine ops_y hH8 rfl rfl (yv_len T.sl22 rfl (h0.now hH8 (n := 2) rfl).is) ?_
    refine oA hH8 rfl rfl (ops_nil (thn_n (seq (region (oM hH8 rfl rfl ?_)))))
    refine ops_y hH8 rfl rfl (yv_conv Tryz.underlying5 Tryz.underlying3 rfl (wrap_i64 (by omega))) ?_
    refine oM hH8 rfl rfl ?_
    refine ops_y hH8 rfl rfl (yv_cast (show _ = (i : Int) from hi.symm) (yv_rem rfl rfl (by omega) (by omega))) ?_
    refine oA hH8 rfl rfl (ops_nil (thn_n (seq (region ?_))))
    refine ops_y hH8 rfl rfl (yv_loadA (cs := [v]) T.agg24 rfl rfl (fun _ hw => Heap.cellsw hw (n := 1) rfl (k := 0) rfl)) ?_
    refine op_fnV rfl rfl rfl hH8 ((by have h := c25  (h0.now hH8 (n := 2) rfl) (by omega) (hG.now hH8 (n := 2) rfl); simp only [hro] at h; exact h)) (fun w18 hH19 => ?_)
    refine oM hH19 rfl rfl (ops_y hH19 rfl rfl (yv_extract rfl rfl) (ops_y hH19 rfl rfl (yv_extract rfl rfl) (oA hH19 rfl rfl (oA hH19 rfl rfl (ops_nil (thn_n (seq (region ?_))))))))
    refine ops_y hH19 rfl rfl (yv_loadA (cs := [v]) T.agg24 rfl rfl (fun _ hw => Heap.cellsw hw (n := 1) rfl (k := 0) rfl)) ?_
    refine oM hH19 rfl rfl ?_
    refine op_fn rfl rfl rfl hH19 ((by have h := c27 (i := (i : Int)) (h0.now hH19 (n := 2) rfl) (by omega) (hG.now hH19 (n := 2) rfl); simp only [hpe] at h; exact h)) (fun u22 w20 lo23 hi24 hH21 hv25 => ?_)
    obtain ⟨p27, hu, -⟩ := hv25
    subst hu
    have hH26 := Heap.tup2 hH21 (n := 0) rfl
    refine oM hH26 rfl rfl (ops_y hH26 rfl rfl (yv_extract rfl rfl) (ops_y hH26 rfl rfl (yv_extract rfl rfl) (oA hH26 rfl rfl (oA hH26 rfl rfl (ops_nil (thn_n (seq (seq (region ?_)))))))))
    refine oM hH26 rfl rfl ?_
    refine ops_y hH26 rfl rfl (yv_neq rfl rfl) ?_
    refine oM hH26 rfl rfl (guard_yes rfl rfl rfl (oM hH26 rfl rfl (guard_yes rfl rfl rfl ?_)))
    refine ops_y hH26 rfl rfl (yv_neq rfl rfl) ?_
    refine ops_y hH26 rfl rfl (yv_pick_f rfl rfl rfl) ?_
    refine oM hH26 rfl rfl (guard_yes rfl rfl rfl (oM hH26 rfl rfl (guard_yes rfl rfl rfl ?_)))
    refine ops_y hH26 rfl rfl (yv_len T.sl39 rfl (Heap.rdw T.el39_encW hH26 (n := 0) rfl).is) ?_
    refine guard_yes rfl rfl rfl ?_
    refine ops_y hH26 rfl rfl (yv_gtr rfl rfl) ?_
    refine ops_y hH26 rfl rfl (yv_pick_f rfl rfl rfl) ?_
    refine oM hH26 rfl rfl ?_
    by_cases hc28 : 5 < ((B.path l i).length : Int)
    ·skip
     refine guard_no rfl rfl (dT hc28) rfl ?_
     refine guard_no rfl rfl (dT hc28) rfl ?_
     refine guard_no rfl rfl (dT hc28) rfl ?_
     refine guard_no rfl rfl (dT hc28) rfl ?_
     refine guard_no rfl rfl (dT hc28) rfl ?_
     refine ops_y hH26 rfl rfl (yv_pick_t rfl (dT hc28) rfl) ?_
     refine oM hH26 rfl rfl (guard_no rfl rfl rfl rfl (guard_no rfl rfl rfl rfl (guard_no rfl rfl rfl rfl (guard_no rfl rfl rfl rfl (guard_no rfl rfl rfl rfl (guard_no rfl rfl rfl rfl (guard_no rfl rfl rfl rfl (guard_no rfl rfl rfl rfl (guard_no rfl rfl rfl rfl ?_)))))))))
     refine guard_no rfl rfl rfl rfl (guard_no rfl rfl rfl rfl ?_)
     refine ops_y hH26 rfl rfl (yv_pick_t rfl rfl rfl) ?_
     refine oM hH26 rfl rfl (guard_no rfl rfl rfl rfl (guard_no rfl rfl rfl rfl (guard_no rfl rfl rfl rfl (guard_no rfl rfl rfl rfl (guard_no rfl rfl rfl rfl (guard_no rfl rfl rfl rfl (guard_no rfl rfl rfl rfl (guard_no rfl rfl rfl rfl (guard_no rfl rfl rfl rfl ?_)))))))))
     refine guard_no rfl rfl rfl rfl (guard_no rfl rfl rfl rfl ?_)
     refine ops_y hH26 rfl rfl (yv_pick_t rfl rfl rfl) ?_
     refine ops_nil (thn_n ?_)
     refine cond_t rfl rfl ?_
     refine seq ?_
     have hbad : False := by first | omega | exact absurd rfl ‹_›
     refine region (oA hH26 rfl rfl (ops_nil (thn_n (ret (thn_r ?_)))))
     have hH29 := (hH26.sub (sC (sC (sC sR))))
     refine fin hH29 (fun w' hf => (res1 rfl (show RV _ _ _ (.tmp 8) _ from rfl))) (fun w' hf => ?_)
     first | rfl | exact hbad.elim
    ·skip
     refine guard_yes rfl rfl (dF hc28) ?_
     refine oM hH26 rfl rfl ?_
     refine guard_yes rfl rfl (dF hc28) ?_
     refine ops_y hH26 rfl rfl (yv_field T.f24_0 rfl) ?_
     refine guard_yes rfl rfl (dF hc28) ?_
     refine ops_y hH26 rfl rfl (yv_load T.one22 rfl (fun _ hw => Heap.cellw hw (n := 2) rfl rfl)) ?_
     refine guard_yes rfl rfl (dF hc28) ?_
     refine op_fnV rfl rfl rfl hH26 (c44 (h0.now hH26 (n := 3) rfl) (by omega) (by assumption)) (fun w30 hH31 => ?_)
     refine guard_yes rfl rfl (dF hc28) ?_
     refine ops_y hH31 rfl rfl (yv_neq rfl rfl) ?_
     refine ops_y hH31 rfl rfl (yv_pick_f rfl (dF hc28) rfl) ?_
     refine oM hH31 rfl rfl ?_
     refine guard_yes rfl rfl (not_decide_n rfl) ?_
     refine ops_y hH31 rfl rfl (yv_field T.f24_0 rfl) ?_
     refine guard_yes rfl rfl (not_decide_n rfl) ?_
     refine ops_y hH31 rfl rfl (yv_load T.one22 rfl (fun _ hw => Heap.cellw hw (n := 2) rfl rfl)) ?_
     refine guard_yes rfl rfl (not_decide_n rfl) ?_
     refine oM hH31 rfl rfl ?_
     refine guard_yes rfl rfl (not_decide_n rfl) ?_
     refine ops_y hH31 rfl rfl (yv_index T.sl22 rfl rfl (h0.now hH31 (n := 3) rfl).is (by omega)) ?_
     refine guard_yes rfl rfl (not_decide_n rfl) ?_
     refine ops_y hH31 rfl rfl (yv_loadA (cs := [(.int .i64 ((nth l (i : Int)).n)), (.int .i64 ((nth l (i : Int)).d)), (.int .i64 ((nth l (i : Int)).f)), (.int .i64 ((nth l (i : Int)).t)), (.int .i64 ((nth l (i : Int)).a))]) T.agg38 rfl rfl (fun _ hw => Rd.atA (h0.now hw (n := 3) rfl) (i := (i : Int)) (by omega))) ?_
     refine guard_yes rfl rfl (not_decide_n rfl) ?_
     refine oM hH31 rfl rfl ?_
     refine guard_yes rfl rfl (not_decide_n rfl) ?_
     refine oM hH31 rfl rfl ?_
     refine guard_yes rfl rfl (not_decide_n rfl) ?_
     refine oM hH31 rfl rfl ?_
     refine guard_yes rfl rfl (not_decide_n rfl) ?_
     refine oM hH31 rfl rfl ?_
     refine guard_yes rfl rfl (not_decide_n rfl) ?_
     refine op_fnV rfl rfl rfl hH31 (c30 (e := (nth l (i : Int))) (i := (i : Int)) (n := (l.length : Int)) (r := B.root l) (hG.now hH31 (n := 3) rfl) (Heap.rdw T.el39_encW hH31 (n := 0) rfl) (by omega)) (fun w32 hH33 => ?_)
     refine guard_yes rfl rfl (not_decide_n rfl) ?_
     refine ops_y hH33 rfl rfl (yv_neq rfl rfl) ?_
     refine ops_y hH33 rfl rfl (yv_pick_f rfl (not_decide_n rfl) rfl) ?_
     refine oM hH33 rfl rfl ?_
     by_cases hc34 : (B.cp (nth l (i : Int)) (i : Int) (l.length : Int) (B.path l i) (B.root l)) = 0
     ·skip
      refine guard_yes rfl rfl (not_decide_n hc34) ?_
      refine ops_y hH33 rfl rfl (yv_field T.f24_0 rfl) ?_
      refine guard_yes rfl rfl (not_decide_n hc34) ?_
      refine ops_y hH33 rfl rfl (yv_load T.one22 rfl (fun _ hw => Heap.cellw hw (n := 2) rfl rfl)) ?_
      refine guard_yes rfl rfl (not_decide_n hc34) ?_
      refine oM hH33 rfl rfl ?_
      refine guard_yes rfl rfl (not_decide_n hc34) ?_
      refine ops_y hH33 rfl rfl (yv_index T.sl22 rfl rfl (h0.now hH33 (n := 3) rfl).is (by omega)) ?_
      refine guard_yes rfl rfl (not_decide_n hc34) ?_
      refine ops_y hH33 rfl rfl (yv_loadA (cs := [(.int .i64 ((nth l (i : Int)).n)), (.int .i64 ((nth l (i : Int)).d)), (.int .i64 ((nth l (i : Int)).f)), (.int .i64 ((nth l (i : Int)).t)), (.int .i64 ((nth l (i : Int)).a))]) T.agg38 rfl rfl (fun _ hw => Rd.atA (h0.now hw (n := 3) rfl) (i := (i : Int)) (by omega))) ?_
      refine guard_yes rfl rfl (not_decide_n hc34) ?_
      refine oM hH33 rfl rfl ?_
      refine guard_yes rfl rfl (not_decide_n hc34) ?_
      refine oM hH33 rfl rfl ?_
      refine guard_yes rfl rfl (not_decide_n hc34) ?_
      refine oM hH33 rfl rfl ?_
      refine guard_yes rfl rfl (not_decide_n hc34) ?_
      refine oM hH33 rfl rfl ?_
      refine guard_yes rfl rfl (not_decide_n hc34) ?_
      refine op_fnV rfl rfl rfl hH33 (c31 (e := (nth l (i : Int))) (i := (i : Int)) (n := (l.length : Int)) (r := B.root l)  (Heap.rdw T.el39_encW hH33 (n := 0) rfl) (by omega)) (fun w35 hH36 => ?_)
      refine guard_yes rfl rfl (not_decide_n hc34) ?_
      refine ops_y hH36 rfl rfl (yv_neq rfl rfl) ?_
      refine ops_y hH36 rfl rfl (yv_pick_f rfl (not_decide_n hc34) rfl) ?_
      refine ops_nil (thn_n ?_)
      refine cond_f rfl (not_decide_n hc34) ?_
      refine skip (thn_n (seq (seq (region (oA hH36 rfl rfl (ops_nil (thn_n (block ?_))))))))
      refine loop (S := Nat) (fun t => [(15, (.int .i64 (t : Int))), (3, u), (4, (.pointer (some ⟨b1, 0, none⟩))), (6, (.pointer (some ⟨b4, 0, none⟩))), (9, (.int .i64 (l.length : Int))), (10, (.int .i64 (i : Int))), (11, (.int .u64 ((B.root l).toNat : Int))), (13, p27)]) (fun t w1 => Heap [ow lo23 hi24 32 1 encW p27 (B.path l i), bx b4 38 [(.int .i64 e.n), (.int .i64 e.d), (.int .i64 e.f), (.int .i64 e.t), (.int .i64 e.a)], bx b1 24 [v], base w] w1 ∧ t ≤ 2) (fun t => 2 - t) (0) (uC rfl (uC rfl (uC rfl (uC rfl (uC rfl (uC rfl (uC rfl (uC rfl (Sub.nil _))))))))) ?_ ?_
      ·exact ⟨hH36, by omega⟩
      ·rintro t w37 ⟨hH38, ht⟩
       show Holds _ _ _ _ _ [(15, (.int .i64 (t : Int))), (3, u), (4, (.pointer (some ⟨b1, 0, none⟩))), (6, (.pointer (some ⟨b4, 0, none⟩))), (9, (.int .i64 (l.length : Int))), (10, (.int .i64 (i : Int))), (11, (.int .u64 ((B.root l).toNat : Int))), (13, p27)] _ _
       refine seq (seq (region (oM hH38 rfl rfl ?_)))
       refine ops_y hH38 rfl rfl (yv_lss rfl rfl) ?_
       refine ops_nil (thn_n ?_)
       by_cases hc39 : (t : Int) < 2
       ·skip
        refine cond_t rfl (dT hc39) ?_
        refine skip (thn_n (seq (block (seq (region (oM hH38 rfl rfl (oA hH38 rfl rfl (ops_nil (thn_n ?_)))))))))
        refine seq (seq (region (oM hH38 rfl rfl ?_)))
        refine ops_y hH38 rfl rfl (yv_eql rfl rfl) ?_
        refine ops_nil (thn_n ?_)
        by_cases hc40 : (t : Int) = 1
        ·skip
         refine cond_t rfl (dT hc40) ?_
         refine region (oM hH38 rfl rfl (oA hH38 rfl rfl (ops_nil (thn_n (seq (region ?_))))))
         refine ops_y hH38 rfl rfl (yv_loadA (cs := [(.int .i64 e.n), (.int .i64 e.d), (.int .i64 e.f), (.int .i64 e.t), (.int .i64 e.a)]) T.agg38 rfl rfl (fun _ hw => Heap.cellsw hw (n := 1) rfl (k := 0) rfl)) ?_
         refine oM hH38 rfl rfl (oM hH38 rfl rfl (oM hH38 rfl rfl (oM hH38 rfl rfl ?_)))
         refine op_fnV rfl rfl rfl hH38 (c30 (e := e) (i := (i : Int)) (n := (l.length : Int)) (r := B.root l) (hG.now hH38 (n := 3) rfl) (Heap.rdw T.el39_encW hH38 (n := 0) rfl) (by omega)) (fun w41 hH42 => ?_)
         refine oA hH42 rfl rfl (ops_nil (thn_n (seq (region ?_))))
         refine ops_y hH42 rfl rfl (yv_loadA (cs := [(.int .i64 e.n), (.int .i64 e.d), (.int .i64 e.f), (.int .i64 e.t), (.int .i64 e.a)]) T.agg38 rfl rfl (fun _ hw => Heap.cellsw hw (n := 1) rfl (k := 0) rfl)) ?_
         refine op_fnV rfl rfl rfl hH42 (c45 ) (fun w43 hH44 => ?_)
         refine oA hH44 rfl rfl (ops_nil (thn_n (seq (seq ?_))))
         have hcr := B.cp_range (e := e) (p := (B.path l i)) (r := B.root l) hil hl24
         refine region (oM hH44 rfl rfl ?_)
         refine ops_y hH44 rfl rfl (yv_neq rfl rfl) ?_
         refine oM hH44 rfl rfl ?_
         by_cases hc45 : (B.ckE e) = 0
         ·skip
          refine guard_no rfl rfl (not_decide_n hc45) rfl ?_
          refine guard_no rfl rfl (not_decide_n hc45) rfl ?_
          refine guard_no rfl rfl (not_decide_n hc45) rfl ?_
          refine ops_y hH44 rfl rfl (yv_pick_f rfl (not_decide_n hc45) rfl) ?_
          refine oM hH44 rfl rfl (guard_yes rfl rfl rfl (oM hH44 rfl rfl (guard_yes rfl rfl rfl ?_)))
          refine ops_y hH44 rfl rfl (yv_eql rfl rfl) ?_
          refine guard_yes rfl rfl rfl (oM hH44 rfl rfl ?_)
          by_cases hc46 : (B.ckE e) = 0
          ·skip
           refine guard_yes rfl rfl (dT hc46) ?_
           refine oM hH44 rfl rfl ?_
           refine guard_yes rfl rfl (dT hc46) ?_
           refine ops_y hH44 rfl rfl (yv_neq rfl rfl) ?_
           refine guard_yes rfl rfl rfl ?_
           refine ops_y hH44 rfl rfl (yv_pick_t rfl (dT hc46) rfl) ?_
           refine guard_yes rfl rfl rfl (oM hH44 rfl rfl ?_)
           by_cases hc47 : (B.cp e (i : Int) (l.length : Int) (B.path l i) (B.root l)) = 0
           ·skip
            refine guard_no rfl rfl (not_decide_n hc47) rfl ?_
            refine guard_no rfl rfl (not_decide_n hc47) rfl ?_
            refine guard_yes rfl rfl rfl ?_
            refine ops_y hH44 rfl rfl (yv_pick_f rfl (not_decide_n hc47) rfl) ?_
            refine ops_y hH44 rfl rfl (yv_pick_f rfl rfl rfl) ?_
            refine ops_nil (thn_n ?_)
            refine cond_f rfl rfl ?_
            refine skip (thn_n (seq (seq ?_)))
            refine region_draw (fun w' => Heap [ow lo23 hi24 32 1 encW p27 (B.path l i), bx b4 38 [(.int .i64 e.n), (.int .i64 e.d), (.int .i64 e.f), (.int .i64 e.t), (.int .i64 e.a)], bx b1 24 [v], base w] w') T.mixed (fun w48 hr49 => ?_)
            have hH50 := hH44.redrawn hr49
            refine any_takes [0, 1, 2, 3, 4, 5, 6, 7, 8, 9, 10] (by kernel_rfl) hH50 _ _ _ (by kernel_rfl) ?_
            refine qM rfl rfl rfl ?_
            refine qs_y rfl rfl (yv_neq rfl rfl) ?_
            refine qM rfl rfl rfl ?_
            refine qs_yes rfl rfl rfl (not_decide_n hc47) rfl (yv_loadA (cs := [(.int .i64 e.n), (.int .i64 e.d), (.int .i64 e.f), (.int .i64 e.t), (.int .i64 e.a)]) T.agg38 rfl rfl (fun _ hw => Heap.cellsw hw (n := 1) rfl (k := 0) rfl)) ?_
            refine qs_yes rfl rfl rfl (not_decide_n hc47) rfl (yv_field T.f24_0 rfl) ?_
            refine qs_yes rfl rfl rfl (not_decide_n hc47) rfl (yv_load T.one22 rfl (fun _ hw => Heap.cellw hw (n := 2) rfl rfl)) ?_
            refine qW rfl rfl rfl (not_decide_n hc47) rfl rfl ?_
            refine qs_yes rfl rfl rfl (not_decide_n hc47) rfl (yv_index T.sl22 rfl rfl (h0.now hH50 (n := 3) rfl).is (by omega)) ?_
            refine qs_yes rfl rfl rfl (not_decide_n hc47) rfl (yv_loadA (cs := [(.int .i64 ((nth l (i : Int)).n)), (.int .i64 ((nth l (i : Int)).d)), (.int .i64 ((nth l (i : Int)).f)), (.int .i64 ((nth l (i : Int)).t)), (.int .i64 ((nth l (i : Int)).a))]) T.agg38 rfl rfl (fun _ hw => Rd.atA (h0.now hw (n := 3) rfl) (i := (i : Int)) (by omega))) ?_
            refine qs_yes rfl rfl rfl (not_decide_n hc47) rfl (yv_eqA (a := [e.n, e.d, e.f, e.t, e.a]) (b := [(nth l (i : Int)).n, (nth l (i : Int)).d, (nth l (i : Int)).f, (nth l (i : Int)).t, (nth l (i : Int)).a]) T.eqi38 rfl rfl rfl rfl) ?_
            refine qs_y rfl rfl (yv_pick_f rfl (not_decide_n hc47) rfl) ?_
            refine qs_nil ?_
            refine any_done (by kernel_rfl) ?_
            refine thn_n ?_
            by_cases hc51 : [e.n, e.d, e.f, e.t, e.a] = [(nth l (i : Int)).n, (nth l (i : Int)).d, (nth l (i : Int)).f, (nth l (i : Int)).t, (nth l (i : Int)).a]
            ·skip
             refine cond_t rfl (dT hc51) ?_
             refine exit (thn_x (blk_here (thn_n (region (oM hH50 rfl rfl ?_)))))
             refine ops_y hH50 rfl rfl (yv_add rfl rfl (by omega)) ?_
             refine oA hH50 rfl rfl (ops_nil ?_)
             refine lp_n (t + 1) (uC rfl (uC rfl (uC rfl (uC rfl (uC rfl (uC rfl (uC rfl (uC rfl (Sub.nil _))))))))) ?_ ?_
             ·exact ⟨hH50, by omega⟩
             ·first | (dsimp only; omega) | (show _ < _; omega)
            ·skip
             refine cond_f rfl (dF hc51) ?_
             refine skip (thn_n (seq ?_))
             have hcz : (B.cp e (i : Int) (l.length : Int) (B.path l i) (B.root l)) = 0 := by omega
             have hz := B.cp_zero hil hl24 hcz
             have hee := (B.ckE_iff.1 hz.1).1
             have hok := hz.2.1
             have hsl := B.strs_len l.length l rfl
             have hsn := ((B.st_ok (e := e) l.length i _ (by omega)).2 hok).2
             have hne : ¬ e = nth l (i : Int) := fun c => absurd (B.lst_inj.2 c) ‹_›
             have hco := B.proved_coll hc0 hil hcz hne
             refine region ?_
             refine ops_y hH50 rfl rfl (yv_loadA (cs := [(.int .i64 e.n), (.int .i64 e.d), (.int .i64 e.f), (.int .i64 e.t), (.int .i64 e.a)]) T.agg38 rfl rfl (fun _ hw => Heap.cellsw hw (n := 1) rfl (k := 0) rfl)) ?_
             refine oM hH50 rfl rfl (oM hH50 rfl rfl (oM hH50 rfl rfl ?_))
             refine op_fn rfl rfl rfl hH50 (c46 (e := e) (i := i) (n := l.length) (p := (B.path l i)) hee (Heap.rdw T.el39_encW hH50 (n := 0) rfl) (by omega) (by omega) (by omega)) (fun u54 w52 lo55 hi56 hH53 hv57 => ?_)
             obtain ⟨p59, hu, -⟩ := hv57
             subst hu
             have hH58 := Heap.tup2 hH53 (n := 0) rfl
             refine oM hH58 rfl rfl (ops_y hH58 rfl rfl (yv_extract rfl rfl) (ops_y hH58 rfl rfl (yv_extract rfl rfl) (oA hH58 rfl rfl (oA hH58 rfl rfl (ops_nil (thn_n (seq (region (oM hH58 rfl rfl ?_)))))))))
             refine ops_y hH58 rfl rfl (yv_not rfl) ?_
             refine oM hH58 rfl rfl ?_
             by_cases hc60 : (!((B.st e i l.length (B.path l i)).2)) = true
             ·skip
              refine guard_no rfl rfl hc60 rfl ?_
              refine guard_no rfl rfl hc60 rfl ?_
              refine guard_no rfl rfl hc60 rfl ?_
              refine guard_no rfl rfl hc60 rfl ?_
              refine guard_no rfl rfl hc60 rfl ?_
              refine guard_no rfl rfl hc60 rfl ?_
              refine guard_no rfl rfl hc60 rfl ?_
              refine ops_y hH58 rfl rfl (yv_pick_t rfl hc60 rfl) ?_
              refine ops_nil (thn_n ?_)
              refine cond_t rfl rfl ?_
              refine seq ?_
              have hbad : False := by first | omega | exact absurd hco ‹_› | exact absurd hok (B.bnt ‹_›)
              refine region (oA hH58 rfl rfl (ops_nil (thn_n (ret (blk_r (thn_r (lp_r (blk_r (thn_r ?_)))))))))
              have hH61 := (hH58.sub (sC (sC (sC (sC sR)))))
              refine fin hH61 (fun w' hf => (res1 rfl (show RV _ _ _ (.tmp 8) _ from rfl))) (fun w' hf => ?_)
              first | rfl | exact hbad.elim
             ·skip
              refine guard_yes rfl rfl (Bool.eq_false_iff.2 hc60) ?_
              refine ops_y hH58 rfl rfl (yv_field T.f24_0 rfl) ?_
              refine guard_yes rfl rfl (Bool.eq_false_iff.2 hc60) ?_
              refine ops_y hH58 rfl rfl (yv_load T.one22 rfl (fun _ hw => Heap.cellw hw (n := 3) rfl rfl)) ?_
              refine guard_yes rfl rfl (Bool.eq_false_iff.2 hc60) ?_
              refine op_fn rfl rfl rfl hH58 (c48 (h0.now hH58 (n := 4) rfl) (by omega) hin0) (fun u64 w62 lo65 hi66 hH63 hv67 => ?_)
              have hH68 := Heap.toOw hH63 (n := 0) rfl
              refine guard_yes rfl rfl (Bool.eq_false_iff.2 hc60) ?_
              refine oM hH68 rfl rfl ?_
              refine guard_yes rfl rfl (Bool.eq_false_iff.2 hc60) ?_
              refine op_append (n := 0) T.el56_encT rfl rfl rfl hH68 rfl (Heap.rdw T.el56_encT hH68 (n := 1) rfl) (by first | omega | (simp only [List.length_append, List.length_cons, List.length_nil]; omega)) (fun u69 lo71 hi72 w70 hH73 => ?_)
              refine guard_yes rfl rfl (Bool.eq_false_iff.2 hc60) ?_
              refine op_fnV rfl rfl rfl hH73 (c47 (Heap.rdw T.el56_encT hH73 (n := 0) rfl) (B.ss_len hl24 (by omega) (by omega) hok) (B.ss_each hin0 hee (by omega))) (fun w74 hH75 => ?_)
              refine guard_yes rfl rfl (Bool.eq_false_iff.2 hc60) ?_
              refine ops_y hH75 rfl rfl (yv_not rfl) ?_
              refine ops_y hH75 rfl rfl (yv_pick_f rfl (Bool.eq_false_iff.2 hc60) rfl) ?_
              refine ops_nil (thn_n ?_)
              by_cases hc76 : B.coll ((B.strs l) ++ (B.st e i l.length (B.path l i)).1)
              ·skip
               refine cond_f rfl (not_decide_n hc76) ?_
               refine skip (blk_n (thn_n (region (oM hH75 rfl rfl ?_))))
               refine ops_y hH75 rfl rfl (yv_add rfl rfl (by omega)) ?_
               refine oA hH75 rfl rfl (ops_nil ?_)
               have hH77 := (hH75.sub (sC (sC sR)))
               refine lp_n (t + 1) (uC rfl (uC rfl (uC rfl (uC rfl (uC rfl (uC rfl (uC rfl (uC rfl (Sub.nil _))))))))) ?_ ?_
               ·exact ⟨hH77, by omega⟩
               ·first | (dsimp only; omega) | (show _ < _; omega)
              ·skip
               refine cond_t rfl (not_decide_t hc76) ?_
               refine seq ?_
               have hbad : False := by first | omega | exact absurd hco ‹_› | exact absurd hok (B.bnt ‹_›)
               refine region (oA hH75 rfl rfl (ops_nil (thn_n (ret (blk_r (thn_r (lp_r (blk_r (thn_r ?_)))))))))
               have hH78 := (hH75.sub (sC (sC (sC (sC (sC sR))))))
               refine fin hH78 (fun w' hf => (res1 rfl (show RV _ _ _ (.tmp 8) _ from rfl))) (fun w' hf => ?_)
               first | rfl | exact hbad.elim
           ·skip
            refine guard_yes rfl rfl (not_decide_t hc47) ?_
            refine oM hH44 rfl rfl ?_
            refine guard_yes rfl rfl (not_decide_t hc47) ?_
            refine ops_y hH44 rfl rfl (yv_neq rfl rfl) ?_
            refine guard_yes rfl rfl rfl ?_
            refine ops_y hH44 rfl rfl (yv_pick_t rfl (not_decide_t hc47) rfl) ?_
            refine ops_y hH44 rfl rfl (yv_pick_f rfl rfl rfl) ?_
            refine ops_nil (thn_n ?_)
            by_cases hc79 : (B.cp e (i : Int) (l.length : Int) (B.path l i) (B.root l)) = 25
            ·skip
             refine cond_f rfl (not_decide_n hc79) ?_
             refine skip (thn_n (seq (seq ?_)))
             refine region_draw (fun w' => Heap [ow lo23 hi24 32 1 encW p27 (B.path l i), bx b4 38 [(.int .i64 e.n), (.int .i64 e.d), (.int .i64 e.f), (.int .i64 e.t), (.int .i64 e.a)], bx b1 24 [v], base w] w') T.mixed (fun w80 hr81 => ?_)
             have hH82 := hH44.redrawn hr81
             refine any_takes [0, 1, 2, 3, 4, 5, 6, 7, 8, 9, 10] (by kernel_rfl) hH82 _ _ _ (by kernel_rfl) ?_
             refine qM rfl rfl rfl ?_
             refine qs_y rfl rfl (yv_neq rfl rfl) ?_
             refine qM rfl rfl rfl ?_
             refine qs_no rfl rfl rfl (not_decide_t hc47) rfl ?_
             refine qs_no rfl rfl rfl (not_decide_t hc47) rfl ?_
             refine qs_no rfl rfl rfl (not_decide_t hc47) rfl ?_
             refine qs_no rfl rfl rfl (not_decide_t hc47) rfl ?_
             refine qs_no rfl rfl rfl (not_decide_t hc47) rfl ?_
             refine qs_no rfl rfl rfl (not_decide_t hc47) rfl ?_
             refine qs_no rfl rfl rfl (not_decide_t hc47) rfl ?_
             refine qs_y rfl rfl (yv_pick_t rfl (not_decide_t hc47) rfl) ?_
             refine qs_nil ?_
             refine any_done (by kernel_rfl) ?_
             refine thn_n ?_
             refine cond_t rfl rfl ?_
             refine exit (thn_x (blk_here (thn_n (region (oM hH82 rfl rfl ?_)))))
             refine ops_y hH82 rfl rfl (yv_add rfl rfl (by omega)) ?_
             refine oA hH82 rfl rfl (ops_nil ?_)
             refine lp_n (t + 1) (uC rfl (uC rfl (uC rfl (uC rfl (uC rfl (uC rfl (uC rfl (uC rfl (Sub.nil _))))))))) ?_ ?_
             ·exact ⟨hH82, by omega⟩
             ·first | (dsimp only; omega) | (show _ < _; omega)
            ·skip
             refine cond_t rfl (not_decide_t hc79) ?_
             refine seq ?_
             have hbad : False := by omega
             refine region (oA hH44 rfl rfl (ops_nil (thn_n (ret (thn_r (blk_r (thn_r (lp_r (blk_r ?_)))))))))
             refine thn_r ?_
             have hH83 := (hH44.sub (sC (sC (sC sR))))
             refine fin hH83 (fun w' hf => (res1 rfl (show RV _ _ _ (.tmp 8) _ from rfl))) (fun w' hf => ?_)
             first | rfl | exact hbad.elim
          ·skip
           refine guard_no rfl rfl (dF hc46) rfl ?_
           refine guard_no rfl rfl (dF hc46) rfl ?_
           refine guard_yes rfl rfl rfl ?_
           refine ops_y hH44 rfl rfl (yv_pick_f rfl (dF hc46) rfl) ?_
           refine guard_yes rfl rfl rfl (oM hH44 rfl rfl (guard_no rfl rfl rfl rfl (guard_no rfl rfl rfl rfl (guard_yes rfl rfl rfl ?_))))
           refine ops_y hH44 rfl rfl (yv_pick_f rfl rfl rfl) ?_
           refine ops_y hH44 rfl rfl (yv_pick_f rfl rfl rfl) ?_
           refine ops_nil (thn_n ?_)
           refine cond_f rfl rfl ?_
           refine skip (thn_n (seq (seq ?_)))
           refine region_draw (fun w' => Heap [ow lo23 hi24 32 1 encW p27 (B.path l i), bx b4 38 [(.int .i64 e.n), (.int .i64 e.d), (.int .i64 e.f), (.int .i64 e.t), (.int .i64 e.a)], bx b1 24 [v], base w] w') T.mixed (fun w84 hr85 => ?_)
           have hH86 := hH44.redrawn hr85
           refine any_takes [0, 1, 2] (by kernel_rfl) hH86 _ _ _ (by kernel_rfl) ?_
           refine qM rfl rfl rfl ?_
           refine qs_y rfl rfl (yv_neq rfl rfl) ?_
           refine qM rfl rfl rfl (qs_nil ?_)
           by_cases hc87 : (B.cp e (i : Int) (l.length : Int) (B.path l i) (B.root l)) = 0
           ·skip
            refine any_takes [3, 4, 5, 6, 7, 8, 9, 10] (by kernel_rfl) hH86 _ _ _ (by kernel_rfl) ?_
            refine qs_yes rfl rfl rfl (not_decide_n hc87) rfl (yv_loadA (cs := [(.int .i64 e.n), (.int .i64 e.d), (.int .i64 e.f), (.int .i64 e.t), (.int .i64 e.a)]) T.agg38 rfl rfl (fun _ hw => Heap.cellsw hw (n := 1) rfl (k := 0) rfl)) ?_
            refine qs_yes rfl rfl rfl (not_decide_n hc87) rfl (yv_field T.f24_0 rfl) ?_
            refine qs_yes rfl rfl rfl (not_decide_n hc87) rfl (yv_load T.one22 rfl (fun _ hw => Heap.cellw hw (n := 2) rfl rfl)) ?_
            refine qW rfl rfl rfl (not_decide_n hc87) rfl rfl ?_
            refine qs_yes rfl rfl rfl (not_decide_n hc87) rfl (yv_index T.sl22 rfl rfl (h0.now hH86 (n := 3) rfl).is (by omega)) ?_
            refine qs_yes rfl rfl rfl (not_decide_n hc87) rfl (yv_loadA (cs := [(.int .i64 ((nth l (i : Int)).n)), (.int .i64 ((nth l (i : Int)).d)), (.int .i64 ((nth l (i : Int)).f)), (.int .i64 ((nth l (i : Int)).t)), (.int .i64 ((nth l (i : Int)).a))]) T.agg38 rfl rfl (fun _ hw => Rd.atA (h0.now hw (n := 3) rfl) (i := (i : Int)) (by omega))) ?_
            refine qs_yes rfl rfl rfl (not_decide_n hc87) rfl (yv_eqA (a := [e.n, e.d, e.f, e.t, e.a]) (b := [(nth l (i : Int)).n, (nth l (i : Int)).d, (nth l (i : Int)).f, (nth l (i : Int)).t, (nth l (i : Int)).a]) T.eqi38 rfl rfl rfl rfl) ?_
            refine qs_y rfl rfl (yv_pick_f rfl (not_decide_n hc87) rfl) ?_
            refine qs_nil ?_
            refine any_done (by kernel_rfl) ?_
            refine thn_n ?_
            by_cases hc88 : [e.n, e.d, e.f, e.t, e.a] = [(nth l (i : Int)).n, (nth l (i : Int)).d, (nth l (i : Int)).f, (nth l (i : Int)).t, (nth l (i : Int)).a]
            ·skip
             refine cond_t rfl (dT hc88) ?_
             refine exit (thn_x (blk_here (thn_n (region (oM hH86 rfl rfl ?_)))))
             refine ops_y hH86 rfl rfl (yv_add rfl rfl (by omega)) ?_
             refine oA hH86 rfl rfl (ops_nil ?_)
             refine lp_n (t + 1) (uC rfl (uC rfl (uC rfl (uC rfl (uC rfl (uC rfl (uC rfl (uC rfl (Sub.nil _))))))))) ?_ ?_
             ·exact ⟨hH86, by omega⟩
             ·first | (dsimp only; omega) | (show _ < _; omega)
            ·skip
             refine cond_f rfl (dF hc88) ?_
             refine skip (thn_n (seq ?_))
             have hcz : (B.cp e (i : Int) (l.length : Int) (B.path l i) (B.root l)) = 0 := by omega
             have hz := B.cp_zero hil hl24 hcz
             have hee := (B.ckE_iff.1 hz.1).1
             have hok := hz.2.1
             have hsl := B.strs_len l.length l rfl
             have hsn := ((B.st_ok (e := e) l.length i _ (by omega)).2 hok).2
             have hne : ¬ e = nth l (i : Int) := fun c => absurd (B.lst_inj.2 c) ‹_›
             have hco := B.proved_coll hc0 hil hcz hne
             refine region ?_
             refine ops_y hH86 rfl rfl (yv_loadA (cs := [(.int .i64 e.n), (.int .i64 e.d), (.int .i64 e.f), (.int .i64 e.t), (.int .i64 e.a)]) T.agg38 rfl rfl (fun _ hw => Heap.cellsw hw (n := 1) rfl (k := 0) rfl)) ?_
             refine oM hH86 rfl rfl (oM hH86 rfl rfl (oM hH86 rfl rfl ?_))
             refine op_fn rfl rfl rfl hH86 (c46 (e := e) (i := i) (n := l.length) (p := (B.path l i)) hee (Heap.rdw T.el39_encW hH86 (n := 0) rfl) (by omega) (by omega) (by omega)) (fun u91 w89 lo92 hi93 hH90 hv94 => ?_)
             obtain ⟨p96, hu, -⟩ := hv94
             subst hu
             have hH95 := Heap.tup2 hH90 (n := 0) rfl
             refine oM hH95 rfl rfl (ops_y hH95 rfl rfl (yv_extract rfl rfl) (ops_y hH95 rfl rfl (yv_extract rfl rfl) (oA hH95 rfl rfl (oA hH95 rfl rfl (ops_nil (thn_n (seq (region (oM hH95 rfl rfl ?_)))))))))
             refine ops_y hH95 rfl rfl (yv_not rfl) ?_
             refine oM hH95 rfl rfl ?_
             by_cases hc97 : (!((B.st e i l.length (B.path l i)).2)) = true
             ·skip
              refine guard_no rfl rfl hc97 rfl ?_
              refine guard_no rfl rfl hc97 rfl ?_
              refine guard_no rfl rfl hc97 rfl ?_
              refine guard_no rfl rfl hc97 rfl ?_
              refine guard_no rfl rfl hc97 rfl ?_
              refine guard_no rfl rfl hc97 rfl ?_
              refine guard_no rfl rfl hc97 rfl ?_
              refine ops_y hH95 rfl rfl (yv_pick_t rfl hc97 rfl) ?_
              refine ops_nil (thn_n ?_)
              refine cond_t rfl rfl ?_
              refine seq ?_
              have hbad : False := by first | omega | exact absurd hco ‹_› | exact absurd hok (B.bnt ‹_›)
              refine region (oA hH95 rfl rfl (ops_nil (thn_n (ret (blk_r (thn_r (lp_r (blk_r (thn_r ?_)))))))))
              have hH98 := (hH95.sub (sC (sC (sC (sC sR)))))
              refine fin hH98 (fun w' hf => (res1 rfl (show RV _ _ _ (.tmp 8) _ from rfl))) (fun w' hf => ?_)
              first | rfl | exact hbad.elim
             ·skip
              refine guard_yes rfl rfl (Bool.eq_false_iff.2 hc97) ?_
              refine ops_y hH95 rfl rfl (yv_field T.f24_0 rfl) ?_
              refine guard_yes rfl rfl (Bool.eq_false_iff.2 hc97) ?_
              refine ops_y hH95 rfl rfl (yv_load T.one22 rfl (fun _ hw => Heap.cellw hw (n := 3) rfl rfl)) ?_
              refine guard_yes rfl rfl (Bool.eq_false_iff.2 hc97) ?_
              refine op_fn rfl rfl rfl hH95 (c48 (h0.now hH95 (n := 4) rfl) (by omega) hin0) (fun u101 w99 lo102 hi103 hH100 hv104 => ?_)
              have hH105 := Heap.toOw hH100 (n := 0) rfl
              refine guard_yes rfl rfl (Bool.eq_false_iff.2 hc97) ?_
              refine oM hH105 rfl rfl ?_
              refine guard_yes rfl rfl (Bool.eq_false_iff.2 hc97) ?_
              refine op_append (n := 0) T.el56_encT rfl rfl rfl hH105 rfl (Heap.rdw T.el56_encT hH105 (n := 1) rfl) (by first | omega | (simp only [List.length_append, List.length_cons, List.length_nil]; omega)) (fun u106 lo108 hi109 w107 hH110 => ?_)
              refine guard_yes rfl rfl (Bool.eq_false_iff.2 hc97) ?_
              refine op_fnV rfl rfl rfl hH110 (c47 (Heap.rdw T.el56_encT hH110 (n := 0) rfl) (B.ss_len hl24 (by omega) (by omega) hok) (B.ss_each hin0 hee (by omega))) (fun w111 hH112 => ?_)
              refine guard_yes rfl rfl (Bool.eq_false_iff.2 hc97) ?_
              refine ops_y hH112 rfl rfl (yv_not rfl) ?_
              refine ops_y hH112 rfl rfl (yv_pick_f rfl (Bool.eq_false_iff.2 hc97) rfl) ?_
              refine ops_nil (thn_n ?_)
              by_cases hc113 : B.coll ((B.strs l) ++ (B.st e i l.length (B.path l i)).1)
              ·skip
               refine cond_f rfl (not_decide_n hc113) ?_
               refine skip (blk_n (thn_n (region (oM hH112 rfl rfl ?_))))
               refine ops_y hH112 rfl rfl (yv_add rfl rfl (by omega)) ?_
               refine oA hH112 rfl rfl (ops_nil ?_)
               have hH114 := (hH112.sub (sC (sC sR)))
               refine lp_n (t + 1) (uC rfl (uC rfl (uC rfl (uC rfl (uC rfl (uC rfl (uC rfl (uC rfl (Sub.nil _))))))))) ?_ ?_
               ·exact ⟨hH114, by omega⟩
               ·first | (dsimp only; omega) | (show _ < _; omega)
              ·skip
               refine cond_t rfl (not_decide_t hc113) ?_
               refine seq ?_
               have hbad : False := by first | omega | exact absurd hco ‹_› | exact absurd hok (B.bnt ‹_›)
               refine region (oA hH112 rfl rfl (ops_nil (thn_n (ret (blk_r (thn_r (lp_r (blk_r (thn_r ?_)))))))))
               have hH115 := (hH112.sub (sC (sC (sC (sC (sC sR))))))
               refine fin hH115 (fun w' hf => (res1 rfl (show RV _ _ _ (.tmp 8) _ from rfl))) (fun w' hf => ?_)
               first | rfl | exact hbad.elim
           ·skip
            refine any_takes [3, 4, 5, 6, 7, 8, 9, 10] (by kernel_rfl) hH86 _ _ _ (by kernel_rfl) ?_
            refine qs_no rfl rfl rfl (not_decide_t hc87) rfl ?_
            refine qs_no rfl rfl rfl (not_decide_t hc87) rfl ?_
            refine qs_no rfl rfl rfl (not_decide_t hc87) rfl ?_
            refine qs_no rfl rfl rfl (not_decide_t hc87) rfl ?_
            refine qs_no rfl rfl rfl (not_decide_t hc87) rfl ?_
            refine qs_no rfl rfl rfl (not_decide_t hc87) rfl ?_
            refine qs_no rfl rfl rfl (not_decide_t hc87) rfl ?_
            refine qs_y rfl rfl (yv_pick_t rfl (not_decide_t hc87) rfl) ?_
            refine qs_nil ?_
            refine any_done (by kernel_rfl) ?_
            refine thn_n ?_
            refine cond_t rfl rfl ?_
            refine exit (thn_x (blk_here (thn_n (region (oM hH86 rfl rfl ?_)))))
            refine ops_y hH86 rfl rfl (yv_add rfl rfl (by omega)) ?_
            refine oA hH86 rfl rfl (ops_nil ?_)
            refine lp_n (t + 1) (uC rfl (uC rfl (uC rfl (uC rfl (uC rfl (uC rfl (uC rfl (uC rfl (Sub.nil _))))))))) ?_ ?_
            ·exact ⟨hH86, by omega⟩
            ·first | (dsimp only; omega) | (show _ < _; omega)
         ·skip
          refine guard_yes rfl rfl (not_decide_t hc45) ?_
          refine oM hH44 rfl rfl ?_
          refine guard_yes rfl rfl (not_decide_t hc45) ?_
          refine oM hH44 rfl rfl ?_
          refine guard_yes rfl rfl (not_decide_t hc45) ?_
          refine ops_y hH44 rfl rfl (yv_neq rfl rfl) ?_
          refine ops_y hH44 rfl rfl (yv_pick_t rfl (not_decide_t hc45) rfl) ?_
          refine oM hH44 rfl rfl ?_
          by_cases hc116 : (B.cp e (i : Int) (l.length : Int) (B.path l i) (B.root l)) = (B.ckE e)
          ·skip
           refine guard_yes rfl rfl (not_decide_n hc116) ?_
           refine oM hH44 rfl rfl ?_
           refine guard_yes rfl rfl (not_decide_n hc116) ?_
           refine ops_y hH44 rfl rfl (yv_eql rfl rfl) ?_
           refine guard_yes rfl rfl (not_decide_n hc116) ?_
           refine oM hH44 rfl rfl ?_
           by_cases hc117 : (B.ckE e) = 0
           ·skip
            refine guard_yes rfl rfl (dT hc117) ?_
            refine oM hH44 rfl rfl ?_
            refine guard_yes rfl rfl (dT hc117) ?_
            refine ops_y hH44 rfl rfl (yv_neq rfl rfl) ?_
            refine guard_yes rfl rfl (not_decide_n hc116) ?_
            refine ops_y hH44 rfl rfl (yv_pick_t rfl (dT hc117) rfl) ?_
            refine guard_yes rfl rfl (not_decide_n hc116) ?_
            refine oM hH44 rfl rfl ?_
            by_cases hc118 : (B.cp e (i : Int) (l.length : Int) (B.path l i) (B.root l)) = 0
            ·skip
             refine guard_no rfl rfl (not_decide_n hc118) rfl ?_
             refine guard_no rfl rfl (not_decide_n hc118) rfl ?_
             refine guard_yes rfl rfl (not_decide_n hc116) ?_
             refine ops_y hH44 rfl rfl (yv_pick_f rfl (not_decide_n hc118) rfl) ?_
             refine ops_y hH44 rfl rfl (yv_pick_f rfl (not_decide_n hc116) rfl) ?_
             refine ops_nil (thn_n ?_)
             refine cond_f rfl rfl ?_
             refine skip (thn_n (seq (seq ?_)))
             refine region_draw (fun w' => Heap [ow lo23 hi24 32 1 encW p27 (B.path l i), bx b4 38 [(.int .i64 e.n), (.int .i64 e.d), (.int .i64 e.f), (.int .i64 e.t), (.int .i64 e.a)], bx b1 24 [v], base w] w') T.mixed (fun w119 hr120 => ?_)
             have hH121 := hH44.redrawn hr120
             refine any_takes [0, 1, 2, 3, 4, 5, 6, 7, 8, 9, 10] (by kernel_rfl) hH121 _ _ _ (by kernel_rfl) ?_
             refine qM rfl rfl rfl ?_
             refine qs_y rfl rfl (yv_neq rfl rfl) ?_
             refine qM rfl rfl rfl ?_
             refine qs_yes rfl rfl rfl (not_decide_n hc118) rfl (yv_loadA (cs := [(.int .i64 e.n), (.int .i64 e.d), (.int .i64 e.f), (.int .i64 e.t), (.int .i64 e.a)]) T.agg38 rfl rfl (fun _ hw => Heap.cellsw hw (n := 1) rfl (k := 0) rfl)) ?_
             refine qs_yes rfl rfl rfl (not_decide_n hc118) rfl (yv_field T.f24_0 rfl) ?_
             refine qs_yes rfl rfl rfl (not_decide_n hc118) rfl (yv_load T.one22 rfl (fun _ hw => Heap.cellw hw (n := 2) rfl rfl)) ?_
             refine qW rfl rfl rfl (not_decide_n hc118) rfl rfl ?_
             refine qs_yes rfl rfl rfl (not_decide_n hc118) rfl (yv_index T.sl22 rfl rfl (h0.now hH121 (n := 3) rfl).is (by omega)) ?_
             refine qs_yes rfl rfl rfl (not_decide_n hc118) rfl (yv_loadA (cs := [(.int .i64 ((nth l (i : Int)).n)), (.int .i64 ((nth l (i : Int)).d)), (.int .i64 ((nth l (i : Int)).f)), (.int .i64 ((nth l (i : Int)).t)), (.int .i64 ((nth l (i : Int)).a))]) T.agg38 rfl rfl (fun _ hw => Rd.atA (h0.now hw (n := 3) rfl) (i := (i : Int)) (by omega))) ?_
             refine qs_yes rfl rfl rfl (not_decide_n hc118) rfl (yv_eqA (a := [e.n, e.d, e.f, e.t, e.a]) (b := [(nth l (i : Int)).n, (nth l (i : Int)).d, (nth l (i : Int)).f, (nth l (i : Int)).t, (nth l (i : Int)).a]) T.eqi38 rfl rfl rfl rfl) ?_
             refine qs_y rfl rfl (yv_pick_f rfl (not_decide_n hc118) rfl) ?_
             refine qs_nil ?_
             refine any_done (by kernel_rfl) ?_
             refine thn_n ?_
             by_cases hc122 : [e.n, e.d, e.f, e.t, e.a] = [(nth l (i : Int)).n, (nth l (i : Int)).d, (nth l (i : Int)).f, (nth l (i : Int)).t, (nth l (i : Int)).a]
             ·skip
              refine cond_t rfl (dT hc122) ?_
              refine exit (thn_x (blk_here (thn_n (region (oM hH121 rfl rfl ?_)))))
              refine ops_y hH121 rfl rfl (yv_add rfl rfl (by omega)) ?_
              refine oA hH121 rfl rfl (ops_nil ?_)
              refine lp_n (t + 1) (uC rfl (uC rfl (uC rfl (uC rfl (uC rfl (uC rfl (uC rfl (uC rfl (Sub.nil _))))))))) ?_ ?_
              ·exact ⟨hH121, by omega⟩
              ·first | (dsimp only; omega) | (show _ < _; omega)
             ·skip
              refine cond_f rfl (dF hc122) ?_
              refine skip (thn_n (seq ?_))
              have hcz : (B.cp e (i : Int) (l.length : Int) (B.path l i) (B.root l)) = 0 := by omega
              have hz := B.cp_zero hil hl24 hcz
              have hee := (B.ckE_iff.1 hz.1).1
              have hok := hz.2.1
              have hsl := B.strs_len l.length l rfl
              have hsn := ((B.st_ok (e := e) l.length i _ (by omega)).2 hok).2
              have hne : ¬ e = nth l (i : Int) := fun c => absurd (B.lst_inj.2 c) ‹_›
              have hco := B.proved_coll hc0 hil hcz hne
              refine region ?_
              refine ops_y hH121 rfl rfl (yv_loadA (cs := [(.int .i64 e.n), (.int .i64 e.d), (.int .i64 e.f), (.int .i64 e.t), (.int .i64 e.a)]) T.agg38 rfl rfl (fun _ hw => Heap.cellsw hw (n := 1) rfl (k := 0) rfl)) ?_
              refine oM hH121 rfl rfl (oM hH121 rfl rfl (oM hH121 rfl rfl ?_))
              refine op_fn rfl rfl rfl hH121 (c46 (e := e) (i := i) (n := l.length) (p := (B.path l i)) hee (Heap.rdw T.el39_encW hH121 (n := 0) rfl) (by omega) (by omega) (by omega)) (fun u125 w123 lo126 hi127 hH124 hv128 => ?_)
              obtain ⟨p130, hu, -⟩ := hv128
              subst hu
              have hH129 := Heap.tup2 hH124 (n := 0) rfl
              refine oM hH129 rfl rfl (ops_y hH129 rfl rfl (yv_extract rfl rfl) (ops_y hH129 rfl rfl (yv_extract rfl rfl) (oA hH129 rfl rfl (oA hH129 rfl rfl (ops_nil (thn_n (seq (region (oM hH129 rfl rfl ?_)))))))))
              refine ops_y hH129 rfl rfl (yv_not rfl) ?_
              refine oM hH129 rfl rfl ?_
              by_cases hc131 : (!((B.st e i l.length (B.path l i)).2)) = true
              ·skip
               refine guard_no rfl rfl hc131 rfl ?_
               refine guard_no rfl rfl hc131 rfl ?_
               refine guard_no rfl rfl hc131 rfl ?_
               refine guard_no rfl rfl hc131 rfl ?_
               refine guard_no rfl rfl hc131 rfl ?_
               refine guard_no rfl rfl hc131 rfl ?_
               refine guard_no rfl rfl hc131 rfl ?_
               refine ops_y hH129 rfl rfl (yv_pick_t rfl hc131 rfl) ?_
               refine ops_nil (thn_n ?_)
               refine cond_t rfl rfl ?_
               refine seq ?_
               have hbad : False := by first | omega | exact absurd hco ‹_› | exact absurd hok (B.bnt ‹_›)
               refine region (oA hH129 rfl rfl (ops_nil (thn_n (ret (blk_r (thn_r (lp_r (blk_r (thn_r ?_)))))))))
               have hH132 := (hH129.sub (sC (sC (sC (sC sR)))))
               refine fin hH132 (fun w' hf => (res1 rfl (show RV _ _ _ (.tmp 8) _ from rfl))) (fun w' hf => ?_)
               first | rfl | exact hbad.elim
              ·skip
               refine guard_yes rfl rfl (Bool.eq_false_iff.2 hc131) ?_
               refine ops_y hH129 rfl rfl (yv_field T.f24_0 rfl) ?_
               refine guard_yes rfl rfl (Bool.eq_false_iff.2 hc131) ?_
               refine ops_y hH129 rfl rfl (yv_load T.one22 rfl (fun _ hw => Heap.cellw hw (n := 3) rfl rfl)) ?_
               refine guard_yes rfl rfl (Bool.eq_false_iff.2 hc131) ?_
               refine op_fn rfl rfl rfl hH129 (c48 (h0.now hH129 (n := 4) rfl) (by omega) hin0) (fun u135 w133 lo136 hi137 hH134 hv138 => ?_)
               have hH139 := Heap.toOw hH134 (n := 0) rfl
               refine guard_yes rfl rfl (Bool.eq_false_iff.2 hc131) ?_
               refine oM hH139 rfl rfl ?_
               refine guard_yes rfl rfl (Bool.eq_false_iff.2 hc131) ?_
               refine op_append (n := 0) T.el56_encT rfl rfl rfl hH139 rfl (Heap.rdw T.el56_encT hH139 (n := 1) rfl) (by first | omega | (simp only [List.length_append, List.length_cons, List.length_nil]; omega)) (fun u140 lo142 hi143 w141 hH144 => ?_)
               refine guard_yes rfl rfl (Bool.eq_false_iff.2 hc131) ?_
               refine op_fnV rfl rfl rfl hH144 (c47 (Heap.rdw T.el56_encT hH144 (n := 0) rfl) (B.ss_len hl24 (by omega) (by omega) hok) (B.ss_each hin0 hee (by omega))) (fun w145 hH146 => ?_)
               refine guard_yes rfl rfl (Bool.eq_false_iff.2 hc131) ?_
               refine ops_y hH146 rfl rfl (yv_not rfl) ?_
               refine ops_y hH146 rfl rfl (yv_pick_f rfl (Bool.eq_false_iff.2 hc131) rfl) ?_
               refine ops_nil (thn_n ?_)
               by_cases hc147 : B.coll ((B.strs l) ++ (B.st e i l.length (B.path l i)).1)
               ·skip
                refine cond_f rfl (not_decide_n hc147) ?_
                refine skip (blk_n (thn_n (region (oM hH146 rfl rfl ?_))))
                refine ops_y hH146 rfl rfl (yv_add rfl rfl (by omega)) ?_
                refine oA hH146 rfl rfl (ops_nil ?_)
                have hH148 := (hH146.sub (sC (sC sR)))
                refine lp_n (t + 1) (uC rfl (uC rfl (uC rfl (uC rfl (uC rfl (uC rfl (uC rfl (uC rfl (Sub.nil _))))))))) ?_ ?_
                ·exact ⟨hH148, by omega⟩
                ·first | (dsimp only; omega) | (show _ < _; omega)
               ·skip
                refine cond_t rfl (not_decide_t hc147) ?_
                refine seq ?_
                have hbad : False := by first | omega | exact absurd hco ‹_› | exact absurd hok (B.bnt ‹_›)
                refine region (oA hH146 rfl rfl (ops_nil (thn_n (ret (blk_r (thn_r (lp_r (blk_r (thn_r ?_)))))))))
                have hH149 := (hH146.sub (sC (sC (sC (sC (sC sR))))))
                refine fin hH149 (fun w' hf => (res1 rfl (show RV _ _ _ (.tmp 8) _ from rfl))) (fun w' hf => ?_)
                first | rfl | exact hbad.elim
            ·skip
             refine guard_yes rfl rfl (not_decide_t hc118) ?_
             refine oM hH44 rfl rfl ?_
             refine guard_yes rfl rfl (not_decide_t hc118) ?_
             refine ops_y hH44 rfl rfl (yv_neq rfl rfl) ?_
             refine guard_yes rfl rfl (not_decide_n hc116) ?_
             refine ops_y hH44 rfl rfl (yv_pick_t rfl (not_decide_t hc118) rfl) ?_
             refine ops_y hH44 rfl rfl (yv_pick_f rfl (not_decide_n hc116) rfl) ?_
             refine ops_nil (thn_n ?_)
             by_cases hc150 : (B.cp e (i : Int) (l.length : Int) (B.path l i) (B.root l)) = 25
             ·skip
              refine cond_f rfl (not_decide_n hc150) ?_
              refine skip (thn_n (seq (seq ?_)))
              refine region_draw (fun w' => Heap [ow lo23 hi24 32 1 encW p27 (B.path l i), bx b4 38 [(.int .i64 e.n), (.int .i64 e.d), (.int .i64 e.f), (.int .i64 e.t), (.int .i64 e.a)], bx b1 24 [v], base w] w') T.mixed (fun w151 hr152 => ?_)
              have hH153 := hH44.redrawn hr152
              refine any_takes [0, 1, 2, 3, 4, 5, 6, 7, 8, 9, 10] (by kernel_rfl) hH153 _ _ _ (by kernel_rfl) ?_
              refine qM rfl rfl rfl ?_
              refine qs_y rfl rfl (yv_neq rfl rfl) ?_
              refine qM rfl rfl rfl ?_
              refine qs_no rfl rfl rfl (not_decide_t hc118) rfl ?_
              refine qs_no rfl rfl rfl (not_decide_t hc118) rfl ?_
              refine qs_no rfl rfl rfl (not_decide_t hc118) rfl ?_
              refine qs_no rfl rfl rfl (not_decide_t hc118) rfl ?_
              refine qs_no rfl rfl rfl (not_decide_t hc118) rfl ?_
              refine qs_no rfl rfl rfl (not_decide_t hc118) rfl ?_
              refine qs_no rfl rfl rfl (not_decide_t hc118) rfl ?_
              refine qs_y rfl rfl (yv_pick_t rfl (not_decide_t hc118) rfl) ?_
              refine qs_nil ?_
              refine any_done (by kernel_rfl) ?_
              refine thn_n ?_
              refine cond_t rfl rfl ?_
              refine exit (thn_x (blk_here (thn_n (region (oM hH153 rfl rfl ?_)))))
              refine ops_y hH153 rfl rfl (yv_add rfl rfl (by omega)) ?_
              refine oA hH153 rfl rfl (ops_nil ?_)
              refine lp_n (t + 1) (uC rfl (uC rfl (uC rfl (uC rfl (uC rfl (uC rfl (uC rfl (uC rfl (Sub.nil _))))))))) ?_ ?_
              ·exact ⟨hH153, by omega⟩
              ·first | (dsimp only; omega) | (show _ < _; omega)
             ·skip
              refine cond_t rfl (not_decide_t hc150) ?_
              refine seq ?_
              have hbad : False := by omega
              refine region (oA hH44 rfl rfl (ops_nil (thn_n (ret (thn_r (blk_r (thn_r (lp_r (blk_r ?_)))))))))
              refine thn_r ?_
              have hH154 := (hH44.sub (sC (sC (sC sR))))
              refine fin hH154 (fun w' hf => (res1 rfl (show RV _ _ _ (.tmp 8) _ from rfl))) (fun w' hf => ?_)
              first | rfl | exact hbad.elim
           ·skip
            refine guard_no rfl rfl (dF hc117) rfl ?_
            refine guard_no rfl rfl (dF hc117) rfl ?_
            refine guard_yes rfl rfl (not_decide_n hc116) ?_
            refine ops_y hH44 rfl rfl (yv_pick_f rfl (dF hc117) rfl) ?_
            refine guard_yes rfl rfl (not_decide_n hc116) ?_
            refine oM hH44 rfl rfl (guard_no rfl rfl rfl rfl (guard_no rfl rfl rfl rfl ?_))
            refine guard_yes rfl rfl (not_decide_n hc116) ?_
            refine ops_y hH44 rfl rfl (yv_pick_f rfl rfl rfl) ?_
            refine ops_y hH44 rfl rfl (yv_pick_f rfl (not_decide_n hc116) rfl) ?_
            refine ops_nil (thn_n ?_)
            refine cond_f rfl rfl ?_
            refine skip (thn_n (seq (seq ?_)))
            refine region_draw (fun w' => Heap [ow lo23 hi24 32 1 encW p27 (B.path l i), bx b4 38 [(.int .i64 e.n), (.int .i64 e.d), (.int .i64 e.f), (.int .i64 e.t), (.int .i64 e.a)], bx b1 24 [v], base w] w') T.mixed (fun w155 hr156 => ?_)
            have hH157 := hH44.redrawn hr156
            refine any_takes [0, 1, 2] (by kernel_rfl) hH157 _ _ _ (by kernel_rfl) ?_
            refine qM rfl rfl rfl ?_
            refine qs_y rfl rfl (yv_neq rfl rfl) ?_
            refine qM rfl rfl rfl (qs_nil ?_)
            by_cases hc158 : (B.cp e (i : Int) (l.length : Int) (B.path l i) (B.root l)) = 0
            ·skip
             refine any_takes [3, 4, 5, 6, 7, 8, 9, 10] (by kernel_rfl) hH157 _ _ _ (by kernel_rfl) ?_
             refine qs_yes rfl rfl rfl (not_decide_n hc158) rfl (yv_loadA (cs := [(.int .i64 e.n), (.int .i64 e.d), (.int .i64 e.f), (.int .i64 e.t), (.int .i64 e.a)]) T.agg38 rfl rfl (fun _ hw => Heap.cellsw hw (n := 1) rfl (k := 0) rfl)) ?_
             refine qs_yes rfl rfl rfl (not_decide_n hc158) rfl (yv_field T.f24_0 rfl) ?_
             refine qs_yes rfl rfl rfl (not_decide_n hc158) rfl (yv_load T.one22 rfl (fun _ hw => Heap.cellw hw (n := 2) rfl rfl)) ?_
             refine qW rfl rfl rfl (not_decide_n hc158) rfl rfl ?_
             refine qs_yes rfl rfl rfl (not_decide_n hc158) rfl (yv_index T.sl22 rfl rfl (h0.now hH157 (n := 3) rfl).is (by omega)) ?_
             refine qs_yes rfl rfl rfl (not_decide_n hc158) rfl (yv_loadA (cs := [(.int .i64 ((nth l (i : Int)).n)), (.int .i64 ((nth l (i : Int)).d)), (.int .i64 ((nth l (i : Int)).f)), (.int .i64 ((nth l (i : Int)).t)), (.int .i64 ((nth l (i : Int)).a))]) T.agg38 rfl rfl (fun _ hw => Rd.atA (h0.now hw (n := 3) rfl) (i := (i : Int)) (by omega))) ?_
             refine qs_yes rfl rfl rfl (not_decide_n hc158) rfl (yv_eqA (a := [e.n, e.d, e.f, e.t, e.a]) (b := [(nth l (i : Int)).n, (nth l (i : Int)).d, (nth l (i : Int)).f, (nth l (i : Int)).t, (nth l (i : Int)).a]) T.eqi38 rfl rfl rfl rfl) ?_
             refine qs_y rfl rfl (yv_pick_f rfl (not_decide_n hc158) rfl) ?_
             refine qs_nil ?_
             refine any_done (by kernel_rfl) ?_
             refine thn_n ?_
             by_cases hc159 : [e.n, e.d, e.f, e.t, e.a] = [(nth l (i : Int)).n, (nth l (i : Int)).d, (nth l (i : Int)).f, (nth l (i : Int)).t, (nth l (i : Int)).a]
             ·skip
              refine cond_t rfl (dT hc159) ?_
              refine exit (thn_x (blk_here (thn_n (region (oM hH157 rfl rfl ?_)))))
              refine ops_y hH157 rfl rfl (yv_add rfl rfl (by omega)) ?_
              refine oA hH157 rfl rfl (ops_nil ?_)
              refine lp_n (t + 1) (uC rfl (uC rfl (uC rfl (uC rfl (uC rfl (uC rfl (uC rfl (uC rfl (Sub.nil _))))))))) ?_ ?_
              ·exact ⟨hH157, by omega⟩
              ·first | (dsimp only; omega) | (show _ < _; omega)
             ·skip
              refine cond_f rfl (dF hc159) ?_
              refine skip (thn_n (seq ?_))
              have hcz : (B.cp e (i : Int) (l.length : Int) (B.path l i) (B.root l)) = 0 := by omega
              have hz := B.cp_zero hil hl24 hcz
              have hee := (B.ckE_iff.1 hz.1).1
              have hok := hz.2.1
              have hsl := B.strs_len l.length l rfl
              have hsn := ((B.st_ok (e := e) l.length i _ (by omega)).2 hok).2
              have hne : ¬ e = nth l (i : Int) := fun c => absurd (B.lst_inj.2 c) ‹_›
              have hco := B.proved_coll hc0 hil hcz hne
              refine region ?_
              refine ops_y hH157 rfl rfl (yv_loadA (cs := [(.int .i64 e.n), (.int .i64 e.d), (.int .i64 e.f), (.int .i64 e.t), (.int .i64 e.a)]) T.agg38 rfl rfl (fun _ hw => Heap.cellsw hw (n := 1) rfl (k := 0) rfl)) ?_
              refine oM hH157 rfl rfl (oM hH157 rfl rfl (oM hH157 rfl rfl ?_))
              refine op_fn rfl rfl rfl hH157 (c46 (e := e) (i := i) (n := l.length) (p := (B.path l i)) hee (Heap.rdw T.el39_encW hH157 (n := 0) rfl) (by omega) (by omega) (by omega)) (fun u162 w160 lo163 hi164 hH161 hv165 => ?_)
              obtain ⟨p167, hu, -⟩ := hv165
              subst hu
              have hH166 := Heap.tup2 hH161 (n := 0) rfl
              refine oM hH166 rfl rfl (ops_y hH166 rfl rfl (yv_extract rfl rfl) (ops_y hH166 rfl rfl (yv_extract rfl rfl) (oA hH166 rfl rfl (oA hH166 rfl rfl (ops_nil (thn_n (seq (region (oM hH166 rfl rfl ?_)))))))))
              refine ops_y hH166 rfl rfl (yv_not rfl) ?_
              refine oM hH166 rfl rfl ?_
              by_cases hc168 : (!((B.st e i l.length (B.path l i)).2)) = true
              ·skip
               refine guard_no rfl rfl hc168 rfl ?_
               refine guard_no rfl rfl hc168 rfl ?_
               refine guard_no rfl rfl hc168 rfl ?_
               refine guard_no rfl rfl hc168 rfl ?_
               refine guard_no rfl rfl hc168 rfl ?_
               refine guard_no rfl rfl hc168 rfl ?_
               refine guard_no rfl rfl hc168 rfl ?_
               refine ops_y hH166 rfl rfl (yv_pick_t rfl hc168 rfl) ?_
               refine ops_nil (thn_n ?_)
               refine cond_t rfl rfl ?_
               refine seq ?_
               have hbad : False := by first | omega | exact absurd hco ‹_› | exact absurd hok (B.bnt ‹_›)
               refine region (oA hH166 rfl rfl (ops_nil (thn_n (ret (blk_r (thn_r (lp_r (blk_r (thn_r ?_)))))))))
               have hH169 := (hH166.sub (sC (sC (sC (sC sR)))))
               refine fin hH169 (fun w' hf => (res1 rfl (show RV _ _ _ (.tmp 8) _ from rfl))) (fun w' hf => ?_)
               first | rfl | exact hbad.elim
              ·skip
               refine guard_yes rfl rfl (Bool.eq_false_iff.2 hc168) ?_
               refine ops_y hH166 rfl rfl (yv_field T.f24_0 rfl) ?_
               refine guard_yes rfl rfl (Bool.eq_false_iff.2 hc168) ?_
               refine ops_y hH166 rfl rfl (yv_load T.one22 rfl (fun _ hw => Heap.cellw hw (n := 3) rfl rfl)) ?_
               refine guard_yes rfl rfl (Bool.eq_false_iff.2 hc168) ?_
               refine op_fn rfl rfl rfl hH166 (c48 (h0.now hH166 (n := 4) rfl) (by omega) hin0) (fun u172 w170 lo173 hi174 hH171 hv175 => ?_)
               have hH176 := Heap.toOw hH171 (n := 0) rfl
               refine guard_yes rfl rfl (Bool.eq_false_iff.2 hc168) ?_
               refine oM hH176 rfl rfl ?_
               refine guard_yes rfl rfl (Bool.eq_false_iff.2 hc168) ?_
               refine op_append (n := 0) T.el56_encT rfl rfl rfl hH176 rfl (Heap.rdw T.el56_encT hH176 (n := 1) rfl) (by first | omega | (simp only [List.length_append, List.length_cons, List.length_nil]; omega)) (fun u177 lo179 hi180 w178 hH181 => ?_)
               refine guard_yes rfl rfl (Bool.eq_false_iff.2 hc168) ?_
               refine op_fnV rfl rfl rfl hH181 (c47 (Heap.rdw T.el56_encT hH181 (n := 0) rfl) (B.ss_len hl24 (by omega) (by omega) hok) (B.ss_each hin0 hee (by omega))) (fun w182 hH183 => ?_)
               refine guard_yes rfl rfl (Bool.eq_false_iff.2 hc168) ?_
               refine ops_y hH183 rfl rfl (yv_not rfl) ?_
               refine ops_y hH183 rfl rfl (yv_pick_f rfl (Bool.eq_false_iff.2 hc168) rfl) ?_
               refine ops_nil (thn_n ?_)
               by_cases hc184 : B.coll ((B.strs l) ++ (B.st e i l.length (B.path l i)).1)
               ·skip
                refine cond_f rfl (not_decide_n hc184) ?_
                refine skip (blk_n (thn_n (region (oM hH183 rfl rfl ?_))))
                refine ops_y hH183 rfl rfl (yv_add rfl rfl (by omega)) ?_
                refine oA hH183 rfl rfl (ops_nil ?_)
                have hH185 := (hH183.sub (sC (sC sR)))
                refine lp_n (t + 1) (uC rfl (uC rfl (uC rfl (uC rfl (uC rfl (uC rfl (uC rfl (uC rfl (Sub.nil _))))))))) ?_ ?_
                ·exact ⟨hH185, by omega⟩
                ·first | (dsimp only; omega) | (show _ < _; omega)
               ·skip
                refine cond_t rfl (not_decide_t hc184) ?_
                refine seq ?_
                have hbad : False := by first | omega | exact absurd hco ‹_› | exact absurd hok (B.bnt ‹_›)
                refine region (oA hH183 rfl rfl (ops_nil (thn_n (ret (blk_r (thn_r (lp_r (blk_r (thn_r ?_)))))))))
                have hH186 := (hH183.sub (sC (sC (sC (sC (sC sR))))))
                refine fin hH186 (fun w' hf => (res1 rfl (show RV _ _ _ (.tmp 8) _ from rfl))) (fun w' hf => ?_)
                first | rfl | exact hbad.elim
            ·skip
             refine any_takes [3, 4, 5, 6, 7, 8, 9, 10] (by kernel_rfl) hH157 _ _ _ (by kernel_rfl) ?_
             refine qs_no rfl rfl rfl (not_decide_t hc158) rfl ?_
             refine qs_no rfl rfl rfl (not_decide_t hc158) rfl ?_
             refine qs_no rfl rfl rfl (not_decide_t hc158) rfl ?_
             refine qs_no rfl rfl rfl (not_decide_t hc158) rfl ?_
             refine qs_no rfl rfl rfl (not_decide_t hc158) rfl ?_
             refine qs_no rfl rfl rfl (not_decide_t hc158) rfl ?_
             refine qs_no rfl rfl rfl (not_decide_t hc158) rfl ?_
             refine qs_y rfl rfl (yv_pick_t rfl (not_decide_t hc158) rfl) ?_
             refine qs_nil ?_
             refine any_done (by kernel_rfl) ?_
             refine thn_n ?_
             refine cond_t rfl rfl ?_
             refine exit (thn_x (blk_here (thn_n (region (oM hH157 rfl rfl ?_)))))
             refine ops_y hH157 rfl rfl (yv_add rfl rfl (by omega)) ?_
             refine oA hH157 rfl rfl (ops_nil ?_)
             refine lp_n (t + 1) (uC rfl (uC rfl (uC rfl (uC rfl (uC rfl (uC rfl (uC rfl (uC rfl (Sub.nil _))))))))) ?_ ?_
             ·exact ⟨hH157, by omega⟩
             ·first | (dsimp only; omega) | (show _ < _; omega)
          ·skip
           refine guard_no rfl rfl (not_decide_t hc116) rfl ?_
           refine guard_no rfl rfl (not_decide_t hc116) rfl ?_
           refine guard_no rfl rfl (not_decide_t hc116) rfl ?_
           refine guard_none rfl rfl rfl ?_
           refine guard_none rfl rfl rfl ?_
           refine guard_no rfl rfl (not_decide_t hc116) rfl ?_
           refine guard_no rfl rfl (not_decide_t hc116) rfl ?_
           refine guard_none rfl rfl rfl ?_
           refine guard_none rfl rfl rfl ?_
           refine guard_no rfl rfl (not_decide_t hc116) rfl ?_
           refine ops_y hH44 rfl rfl (yv_pick_t rfl (not_decide_t hc116) rfl) ?_
           refine ops_nil (thn_n ?_)
           refine cond_t rfl rfl ?_
           refine seq ?_
           have hbad : False := by omega
           refine region (oA hH44 rfl rfl (ops_nil (thn_n (ret (thn_r (blk_r (thn_r (lp_r (blk_r ?_)))))))))
           refine thn_r ?_
           have hH187 := (hH44.sub (sC (sC (sC sR))))
           refine fin hH187 (fun w' hf => (res1 rfl (show RV _ _ _ (.tmp 8) _ from rfl))) (fun w' hf => ?_)
           first | rfl | exact hbad.elim
        ·skip
         refine cond_f rfl (dF hc40) ?_
         refine skip (thn_n (seq (region ?_)))
         refine ops_y hH38 rfl rfl (yv_loadA (cs := [(.int .i64 e.n), (.int .i64 e.d), (.int .i64 e.f), (.int .i64 e.t), (.int .i64 e.a)]) T.agg38 rfl rfl (fun _ hw => Heap.cellsw hw (n := 1) rfl (k := 0) rfl)) ?_
         refine oM hH38 rfl rfl (oM hH38 rfl rfl (oM hH38 rfl rfl (oM hH38 rfl rfl ?_)))
         refine op_fnV rfl rfl rfl hH38 (c30 (e := e) (i := (i : Int)) (n := (l.length : Int)) (r := B.root l) (hG.now hH38 (n := 3) rfl) (h1.now hH38 (n := 3) rfl) (by omega)) (fun w188 hH189 => ?_)
         refine oA hH189 rfl rfl (ops_nil (thn_n (seq (region ?_))))
         refine ops_y hH189 rfl rfl (yv_loadA (cs := [(.int .i64 e.n), (.int .i64 e.d), (.int .i64 e.f), (.int .i64 e.t), (.int .i64 e.a)]) T.agg38 rfl rfl (fun _ hw => Heap.cellsw hw (n := 1) rfl (k := 0) rfl)) ?_
         refine op_fnV rfl rfl rfl hH189 (c45 ) (fun w190 hH191 => ?_)
         refine oA hH191 rfl rfl (ops_nil (thn_n (seq (seq ?_))))
         have hcr := B.cp_range (e := e) (p := p) (r := B.root l) hil hl24
         refine region (oM hH191 rfl rfl ?_)
         refine ops_y hH191 rfl rfl (yv_neq rfl rfl) ?_
         refine oM hH191 rfl rfl ?_
         by_cases hc192 : (B.ckE e) = 0
         ·skip
          refine guard_no rfl rfl (not_decide_n hc192) rfl ?_
          refine guard_no rfl rfl (not_decide_n hc192) rfl ?_
          refine guard_no rfl rfl (not_decide_n hc192) rfl ?_
          refine ops_y hH191 rfl rfl (yv_pick_f rfl (not_decide_n hc192) rfl) ?_
          refine oM hH191 rfl rfl (guard_yes rfl rfl rfl (oM hH191 rfl rfl (guard_yes rfl rfl rfl ?_)))
          refine ops_y hH191 rfl rfl (yv_eql rfl rfl) ?_
          refine guard_yes rfl rfl rfl (oM hH191 rfl rfl ?_)
          by_cases hc193 : (B.ckE e) = 0
          ·skip
           refine guard_yes rfl rfl (dT hc193) ?_
           refine oM hH191 rfl rfl ?_
           refine guard_yes rfl rfl (dT hc193) ?_
           refine ops_y hH191 rfl rfl (yv_neq rfl rfl) ?_
           refine guard_yes rfl rfl rfl ?_
           refine ops_y hH191 rfl rfl (yv_pick_t rfl (dT hc193) rfl) ?_
           refine guard_yes rfl rfl rfl (oM hH191 rfl rfl ?_)
           by_cases hc194 : (B.cp e (i : Int) (l.length : Int) p (B.root l)) = 0
           ·skip
            refine guard_no rfl rfl (not_decide_n hc194) rfl ?_
            refine guard_no rfl rfl (not_decide_n hc194) rfl ?_
            refine guard_yes rfl rfl rfl ?_
            refine ops_y hH191 rfl rfl (yv_pick_f rfl (not_decide_n hc194) rfl) ?_
            refine ops_y hH191 rfl rfl (yv_pick_f rfl rfl rfl) ?_
            refine ops_nil (thn_n ?_)
            refine cond_f rfl rfl ?_
            refine skip (thn_n (seq (seq ?_)))
            refine region_draw (fun w' => Heap [ow lo23 hi24 32 1 encW p27 (B.path l i), bx b4 38 [(.int .i64 e.n), (.int .i64 e.d), (.int .i64 e.f), (.int .i64 e.t), (.int .i64 e.a)], bx b1 24 [v], base w] w') T.mixed (fun w195 hr196 => ?_)
            have hH197 := hH191.redrawn hr196
            refine any_takes [0, 1, 2, 3, 4, 5, 6, 7, 8, 9, 10] (by kernel_rfl) hH197 _ _ _ (by kernel_rfl) ?_
            refine qM rfl rfl rfl ?_
            refine qs_y rfl rfl (yv_neq rfl rfl) ?_
            refine qM rfl rfl rfl ?_
            refine qs_yes rfl rfl rfl (not_decide_n hc194) rfl (yv_loadA (cs := [(.int .i64 e.n), (.int .i64 e.d), (.int .i64 e.f), (.int .i64 e.t), (.int .i64 e.a)]) T.agg38 rfl rfl (fun _ hw => Heap.cellsw hw (n := 1) rfl (k := 0) rfl)) ?_
            refine qs_yes rfl rfl rfl (not_decide_n hc194) rfl (yv_field T.f24_0 rfl) ?_
            refine qs_yes rfl rfl rfl (not_decide_n hc194) rfl (yv_load T.one22 rfl (fun _ hw => Heap.cellw hw (n := 2) rfl rfl)) ?_
            refine qW rfl rfl rfl (not_decide_n hc194) rfl rfl ?_
            refine qs_yes rfl rfl rfl (not_decide_n hc194) rfl (yv_index T.sl22 rfl rfl (h0.now hH197 (n := 3) rfl).is (by omega)) ?_
            refine qs_yes rfl rfl rfl (not_decide_n hc194) rfl (yv_loadA (cs := [(.int .i64 ((nth l (i : Int)).n)), (.int .i64 ((nth l (i : Int)).d)), (.int .i64 ((nth l (i : Int)).f)), (.int .i64 ((nth l (i : Int)).t)), (.int .i64 ((nth l (i : Int)).a))]) T.agg38 rfl rfl (fun _ hw => Rd.atA (h0.now hw (n := 3) rfl) (i := (i : Int)) (by omega))) ?_
            refine qs_yes rfl rfl rfl (not_decide_n hc194) rfl (yv_eqA (a := [e.n, e.d, e.f, e.t, e.a]) (b := [(nth l (i : Int)).n, (nth l (i : Int)).d, (nth l (i : Int)).f, (nth l (i : Int)).t, (nth l (i : Int)).a]) T.eqi38 rfl rfl rfl rfl) ?_
            refine qs_y rfl rfl (yv_pick_f rfl (not_decide_n hc194) rfl) ?_
            refine qs_nil ?_
            refine any_done (by kernel_rfl) ?_
            refine thn_n ?_
            by_cases hc198 : [e.n, e.d, e.f, e.t, e.a] = [(nth l (i : Int)).n, (nth l (i : Int)).d, (nth l (i : Int)).f, (nth l (i : Int)).t, (nth l (i : Int)).a]
            ·skip
             refine cond_t rfl (dT hc198) ?_
             refine exit (thn_x (blk_here (thn_n (region (oM hH197 rfl rfl ?_)))))
             refine ops_y hH197 rfl rfl (yv_add rfl rfl (by omega)) ?_
             refine oA hH197 rfl rfl (ops_nil ?_)
             refine lp_n (t + 1) (uC rfl (uC rfl (uC rfl (uC rfl (uC rfl (uC rfl (uC rfl (uC rfl (Sub.nil _))))))))) ?_ ?_
             ·exact ⟨hH197, by omega⟩
             ·first | (dsimp only; omega) | (show _ < _; omega)
            ·skip
             refine cond_f rfl (dF hc198) ?_
             refine skip (thn_n (seq ?_))
             have hcz : (B.cp e (i : Int) (l.length : Int) p (B.root l)) = 0 := by omega
             have hz := B.cp_zero hil hl24 hcz
             have hee := (B.ckE_iff.1 hz.1).1
             have hok := hz.2.1
             have hsl := B.strs_len l.length l rfl
             have hsn := ((B.st_ok (e := e) l.length i _ (by omega)).2 hok).2
             have hne : ¬ e = nth l (i : Int) := fun c => absurd (B.lst_inj.2 c) ‹_›
             have hco := B.proved_coll hc0 hil hcz hne
             refine region ?_
             refine ops_y hH197 rfl rfl (yv_loadA (cs := [(.int .i64 e.n), (.int .i64 e.d), (.int .i64 e.f), (.int .i64 e.t), (.int .i64 e.a)]) T.agg38 rfl rfl (fun _ hw => Heap.cellsw hw (n := 1) rfl (k := 0) rfl)) ?_
             refine oM hH197 rfl rfl (oM hH197 rfl rfl (oM hH197 rfl rfl ?_))
             refine op_fn rfl rfl rfl hH197 (c46 (e := e) (i := i) (n := l.length) (p := p) hee (h1.now hH197 (n := 3) rfl) (by omega) (by omega) (by omega)) (fun u201 w199 lo202 hi203 hH200 hv204 => ?_)
             obtain ⟨p206, hu, -⟩ := hv204
             subst hu
             have hH205 := Heap.tup2 hH200 (n := 0) rfl
             refine oM hH205 rfl rfl (ops_y hH205 rfl rfl (yv_extract rfl rfl) (ops_y hH205 rfl rfl (yv_extract rfl rfl) (oA hH205 rfl rfl (oA hH205 rfl rfl (ops_nil (thn_n (seq (region (oM hH205 rfl rfl ?_)))))))))
             refine ops_y hH205 rfl rfl (yv_not rfl) ?_
             refine oM hH205 rfl rfl ?_
             by_cases hc207 : (!((B.st e i l.length p).2)) = true
             ·skip
              refine guard_no rfl rfl hc207 rfl ?_
              refine guard_no rfl rfl hc207 rfl ?_
              refine guard_no rfl rfl hc207 rfl ?_
              refine guard_no rfl rfl hc207 rfl ?_
              refine guard_no rfl rfl hc207 rfl ?_
              refine guard_no rfl rfl hc207 rfl ?_
              refine guard_no rfl rfl hc207 rfl ?_
              refine ops_y hH205 rfl rfl (yv_pick_t rfl hc207 rfl) ?_
              refine ops_nil (thn_n ?_)
              refine cond_t rfl rfl ?_
              refine seq ?_
              have hbad : False := by first | omega | exact absurd hco ‹_› | exact absurd hok (B.bnt ‹_›)
              refine region (oA hH205 rfl rfl (ops_nil (thn_n (ret (blk_r (thn_r (lp_r (blk_r (thn_r ?_)))))))))
              have hH208 := (hH205.sub (sC (sC (sC (sC sR)))))
              refine fin hH208 (fun w' hf => (res1 rfl (show RV _ _ _ (.tmp 8) _ from rfl))) (fun w' hf => ?_)
              first | rfl | exact hbad.elim
             ·skip
              refine guard_yes rfl rfl (Bool.eq_false_iff.2 hc207) ?_
              refine ops_y hH205 rfl rfl (yv_field T.f24_0 rfl) ?_
              refine guard_yes rfl rfl (Bool.eq_false_iff.2 hc207) ?_
              refine ops_y hH205 rfl rfl (yv_load T.one22 rfl (fun _ hw => Heap.cellw hw (n := 3) rfl rfl)) ?_
              refine guard_yes rfl rfl (Bool.eq_false_iff.2 hc207) ?_
              refine op_fn rfl rfl rfl hH205 (c48 (h0.now hH205 (n := 4) rfl) (by omega) hin0) (fun u211 w209 lo212 hi213 hH210 hv214 => ?_)
              have hH215 := Heap.toOw hH210 (n := 0) rfl
              refine guard_yes rfl rfl (Bool.eq_false_iff.2 hc207) ?_
              refine oM hH215 rfl rfl ?_
              refine guard_yes rfl rfl (Bool.eq_false_iff.2 hc207) ?_
              refine op_append (n := 0) T.el56_encT rfl rfl rfl hH215 rfl (Heap.rdw T.el56_encT hH215 (n := 1) rfl) (by first | omega | (simp only [List.length_append, List.length_cons, List.length_nil]; omega)) (fun u216 lo218 hi219 w217 hH220 => ?_)
              refine guard_yes rfl rfl (Bool.eq_false_iff.2 hc207) ?_
              refine op_fnV rfl rfl rfl hH220 (c47 (Heap.rdw T.el56_encT hH220 (n := 0) rfl) (B.ss_len hl24 (by omega) (by omega) hok) (B.ss_each hin0 hee (by omega))) (fun w221 hH222 => ?_)
              refine guard_yes rfl rfl (Bool.eq_false_iff.2 hc207) ?_
              refine ops_y hH222 rfl rfl (yv_not rfl) ?_
              refine ops_y hH222 rfl rfl (yv_pick_f rfl (Bool.eq_false_iff.2 hc207) rfl) ?_
              refine ops_nil (thn_n ?_)
              by_cases hc223 : B.coll ((B.strs l) ++ (B.st e i l.length p).1)
              ·skip
               refine cond_f rfl (not_decide_n hc223) ?_
               refine skip (blk_n (thn_n (region (oM hH222 rfl rfl ?_))))
               refine ops_y hH222 rfl rfl (yv_add rfl rfl (by omega)) ?_
               refine oA hH222 rfl rfl (ops_nil ?_)
               have hH224 := (hH222.sub (sC (sC sR)))
               refine lp_n (t + 1) (uC rfl (uC rfl (uC rfl (uC rfl (uC rfl (uC rfl (uC rfl (uC rfl (Sub.nil _))))))))) ?_ ?_
               ·exact ⟨hH224, by omega⟩
               ·first | (dsimp only; omega) | (show _ < _; omega)
              ·skip
               refine cond_t rfl (not_decide_t hc223) ?_
               refine seq ?_
               have hbad : False := by first | omega | exact absurd hco ‹_› | exact absurd hok (B.bnt ‹_›)
               refine region (oA hH222 rfl rfl (ops_nil (thn_n (ret (blk_r (thn_r (lp_r (blk_r (thn_r ?_)))))))))
               have hH225 := (hH222.sub (sC (sC (sC (sC (sC sR))))))
               refine fin hH225 (fun w' hf => (res1 rfl (show RV _ _ _ (.tmp 8) _ from rfl))) (fun w' hf => ?_)
               first | rfl | exact hbad.elim
           ·skip
            refine guard_yes rfl rfl (not_decide_t hc194) ?_
            refine oM hH191 rfl rfl ?_
            refine guard_yes rfl rfl (not_decide_t hc194) ?_
            refine ops_y hH191 rfl rfl (yv_neq rfl rfl) ?_
            refine guard_yes rfl rfl rfl ?_
            refine ops_y hH191 rfl rfl (yv_pick_t rfl (not_decide_t hc194) rfl) ?_
            refine ops_y hH191 rfl rfl (yv_pick_f rfl rfl rfl) ?_
            refine ops_nil (thn_n ?_)
            by_cases hc226 : (B.cp e (i : Int) (l.length : Int) p (B.root l)) = 25
            ·skip
             refine cond_f rfl (not_decide_n hc226) ?_
             refine skip (thn_n (seq (seq ?_)))
             refine region_draw (fun w' => Heap [ow lo23 hi24 32 1 encW p27 (B.path l i), bx b4 38 [(.int .i64 e.n), (.int .i64 e.d), (.int .i64 e.f), (.int .i64 e.t), (.int .i64 e.a)], bx b1 24 [v], base w] w') T.mixed (fun w227 hr228 => ?_)
             have hH229 := hH191.redrawn hr228
             refine any_takes [0, 1, 2, 3, 4, 5, 6, 7, 8, 9, 10] (by kernel_rfl) hH229 _ _ _ (by kernel_rfl) ?_
             refine qM rfl rfl rfl ?_
             refine qs_y rfl rfl (yv_neq rfl rfl) ?_
             refine qM rfl rfl rfl ?_
             refine qs_no rfl rfl rfl (not_decide_t hc194) rfl ?_
             refine qs_no rfl rfl rfl (not_decide_t hc194) rfl ?_
             refine qs_no rfl rfl rfl (not_decide_t hc194) rfl ?_
             refine qs_no rfl rfl rfl (not_decide_t hc194) rfl ?_
             refine qs_no rfl rfl rfl (not_decide_t hc194) rfl ?_
             refine qs_no rfl rfl rfl (not_decide_t hc194) rfl ?_
             refine qs_no rfl rfl rfl (not_decide_t hc194) rfl ?_
             refine qs_y rfl rfl (yv_pick_t rfl (not_decide_t hc194) rfl) ?_
             refine qs_nil ?_
             refine any_done (by kernel_rfl) ?_
             refine thn_n ?_
             refine cond_t rfl rfl ?_
             refine exit (thn_x (blk_here (thn_n (region (oM hH229 rfl rfl ?_)))))
             refine ops_y hH229 rfl rfl (yv_add rfl rfl (by omega)) ?_
             refine oA hH229 rfl rfl (ops_nil ?_)
             refine lp_n (t + 1) (uC rfl (uC rfl (uC rfl (uC rfl (uC rfl (uC rfl (uC rfl (uC rfl (Sub.nil _))))))))) ?_ ?_
             ·exact ⟨hH229, by omega⟩
             ·first | (dsimp only; omega) | (show _ < _; omega)
            ·skip
             refine cond_t rfl (not_decide_t hc226) ?_
             refine seq ?_
             have hbad : False := by omega
             refine region (oA hH191 rfl rfl (ops_nil (thn_n (ret (thn_r (blk_r (thn_r (lp_r (blk_r ?_)))))))))
             refine thn_r ?_
             have hH230 := (hH191.sub (sC (sC (sC sR))))
             refine fin hH230 (fun w' hf => (res1 rfl (show RV _ _ _ (.tmp 8) _ from rfl))) (fun w' hf => ?_)
             first | rfl | exact hbad.elim
          ·skip
           refine guard_no rfl rfl (dF hc193) rfl ?_
           refine guard_no rfl rfl (dF hc193) rfl ?_
           refine guard_yes rfl rfl rfl ?_
           refine ops_y hH191 rfl rfl (yv_pick_f rfl (dF hc193) rfl) ?_
           refine guard_yes rfl rfl rfl (oM hH191 rfl rfl (guard_no rfl rfl rfl rfl (guard_no rfl rfl rfl rfl (guard_yes rfl rfl rfl ?_))))
           refine ops_y hH191 rfl rfl (yv_pick_f rfl rfl rfl) ?_
           refine ops_y hH191 rfl rfl (yv_pick_f rfl rfl rfl) ?_
           refine ops_nil (thn_n ?_)
           refine cond_f rfl rfl ?_
           refine skip (thn_n (seq (seq ?_)))
           refine region_draw (fun w' => Heap [ow lo23 hi24 32 1 encW p27 (B.path l i), bx b4 38 [(.int .i64 e.n), (.int .i64 e.d), (.int .i64 e.f), (.int .i64 e.t), (.int .i64 e.a)], bx b1 24 [v], base w] w') T.mixed (fun w231 hr232 => ?_)
           have hH233 := hH191.redrawn hr232
           refine any_takes [0, 1, 2] (by kernel_rfl) hH233 _ _ _ (by kernel_rfl) ?_
           refine qM rfl rfl rfl ?_
           refine qs_y rfl rfl (yv_neq rfl rfl) ?_
           refine qM rfl rfl rfl (qs_nil ?_)
           by_cases hc234 : (B.cp e (i : Int) (l.length : Int) p (B.root l)) = 0
           ·skip
            refine any_takes [3, 4, 5, 6, 7, 8, 9, 10] (by kernel_rfl) hH233 _ _ _ (by kernel_rfl) ?_
            refine qs_yes rfl rfl rfl (not_decide_n hc234) rfl (yv_loadA (cs := [(.int .i64 e.n), (.int .i64 e.d), (.int .i64 e.f), (.int .i64 e.t), (.int .i64 e.a)]) T.agg38 rfl rfl (fun _ hw => Heap.cellsw hw (n := 1) rfl (k := 0) rfl)) ?_
            refine qs_yes rfl rfl rfl (not_decide_n hc234) rfl (yv_field T.f24_0 rfl) ?_
            refine qs_yes rfl rfl rfl (not_decide_n hc234) rfl (yv_load T.one22 rfl (fun _ hw => Heap.cellw hw (n := 2) rfl rfl)) ?_
            refine qW rfl rfl rfl (not_decide_n hc234) rfl rfl ?_
            refine qs_yes rfl rfl rfl (not_decide_n hc234) rfl (yv_index T.sl22 rfl rfl (h0.now hH233 (n := 3) rfl).is (by omega)) ?_
            refine qs_yes rfl rfl rfl (not_decide_n hc234) rfl (yv_loadA (cs := [(.int .i64 ((nth l (i : Int)).n)), (.int .i64 ((nth l (i : Int)).d)), (.int .i64 ((nth l (i : Int)).f)), (.int .i64 ((nth l (i : Int)).t)), (.int .i64 ((nth l (i : Int)).a))]) T.agg38 rfl rfl (fun _ hw => Rd.atA (h0.now hw (n := 3) rfl) (i := (i : Int)) (by omega))) ?_
            refine qs_yes rfl rfl rfl (not_decide_n hc234) rfl (yv_eqA (a := [e.n, e.d, e.f, e.t, e.a]) (b := [(nth l (i : Int)).n, (nth l (i : Int)).d, (nth l (i : Int)).f, (nth l (i : Int)).t, (nth l (i : Int)).a]) T.eqi38 rfl rfl rfl rfl) ?_
            refine qs_y rfl rfl (yv_pick_f rfl (not_decide_n hc234) rfl) ?_
            refine qs_nil ?_
            refine any_done (by kernel_rfl) ?_
            refine thn_n ?_
            by_cases hc235 : [e.n, e.d, e.f, e.t, e.a] = [(nth l (i : Int)).n, (nth l (i : Int)).d, (nth l (i : Int)).f, (nth l (i : Int)).t, (nth l (i : Int)).a]
            ·skip
             refine cond_t rfl (dT hc235) ?_
             refine exit (thn_x (blk_here (thn_n (region (oM hH233 rfl rfl ?_)))))
             refine ops_y hH233 rfl rfl (yv_add rfl rfl (by omega)) ?_
             refine oA hH233 rfl rfl (ops_nil ?_)
             refine lp_n (t + 1) (uC rfl (uC rfl (uC rfl (uC rfl (uC rfl (uC rfl (uC rfl (uC rfl (Sub.nil _))))))))) ?_ ?_
             ·exact ⟨hH233, by omega⟩
             ·first | (dsimp only; omega) | (show _ < _; omega)
            ·skip
             refine cond_f rfl (dF hc235) ?_
             refine skip (thn_n (seq ?_))
             have hcz : (B.cp e (i : Int) (l.length : Int) p (B.root l)) = 0 := by omega
             have hz := B.cp_zero hil hl24 hcz
             have hee := (B.ckE_iff.1 hz.1).1
             have hok := hz.2.1
             have hsl := B.strs_len l.length l rfl
             have hsn := ((B.st_ok (e := e) l.length i _ (by omega)).2 hok).2
             have hne : ¬ e = nth l (i : Int) := fun c => absurd (B.lst_inj.2 c) ‹_›
             have hco := B.proved_coll hc0 hil hcz hne
             refine region ?_
             refine ops_y hH233 rfl rfl (yv_loadA (cs := [(.int .i64 e.n), (.int .i64 e.d), (.int .i64 e.f), (.int .i64 e.t), (.int .i64 e.a)]) T.agg38 rfl rfl (fun _ hw => Heap.cellsw hw (n := 1) rfl (k := 0) rfl)) ?_
             refine oM hH233 rfl rfl (oM hH233 rfl rfl (oM hH233 rfl rfl ?_))
             refine op_fn rfl rfl rfl hH233 (c46 (e := e) (i := i) (n := l.length) (p := p) hee (h1.now hH233 (n := 3) rfl) (by omega) (by omega) (by omega)) (fun u238 w236 lo239 hi240 hH237 hv241 => ?_)
             obtain ⟨p243, hu, -⟩ := hv241
             subst hu
             have hH242 := Heap.tup2 hH237 (n := 0) rfl
             refine oM hH242 rfl rfl (ops_y hH242 rfl rfl (yv_extract rfl rfl) (ops_y hH242 rfl rfl (yv_extract rfl rfl) (oA hH242 rfl rfl (oA hH242 rfl rfl (ops_nil (thn_n (seq (region (oM hH242 rfl rfl ?_)))))))))
             refine ops_y hH242 rfl rfl (yv_not rfl) ?_
             refine oM hH242 rfl rfl ?_
             by_cases hc244 : (!((B.st e i l.length p).2)) = true
             ·skip
              refine guard_no rfl rfl hc244 rfl ?_
              refine guard_no rfl rfl hc244 rfl ?_
              refine guard_no rfl rfl hc244 rfl ?_
              refine guard_no rfl rfl hc244 rfl ?_
              refine guard_no rfl rfl hc244 rfl ?_
              refine guard_no rfl rfl hc244 rfl ?_
              refine guard_no rfl rfl hc244 rfl ?_
              refine ops_y hH242 rfl rfl (yv_pick_t rfl hc244 rfl) ?_
              refine ops_nil (thn_n ?_)
              refine cond_t rfl rfl ?_
              refine seq ?_
              have hbad : False := by first | omega | exact absurd hco ‹_› | exact absurd hok (B.bnt ‹_›)
              refine region (oA hH242 rfl rfl (ops_nil (thn_n (ret (blk_r (thn_r (lp_r (blk_r (thn_r ?_)))))))))
              have hH245 := (hH242.sub (sC (sC (sC (sC sR)))))
              refine fin hH245 (fun w' hf => (res1 rfl (show RV _ _ _ (.tmp 8) _ from rfl))) (fun w' hf => ?_)
              first | rfl | exact hbad.elim
             ·skip
              refine guard_yes rfl rfl (Bool.eq_false_iff.2 hc244) ?_
              refine ops_y hH242 rfl rfl (yv_field T.f24_0 rfl) ?_
              refine guard_yes rfl rfl (Bool.eq_false_iff.2 hc244) ?_
              refine ops_y hH242 rfl rfl (yv_load T.one22 rfl (fun _ hw => Heap.cellw hw (n := 3) rfl rfl)) ?_
              refine guard_yes rfl rfl (Bool.eq_false_iff.2 hc244) ?_
              refine op_fn rfl rfl rfl hH242 (c48 (h0.now hH242 (n := 4) rfl) (by omega) hin0) (fun u248 w246 lo249 hi250 hH247 hv251 => ?_)
              have hH252 := Heap.toOw hH247 (n := 0) rfl
              refine guard_yes rfl rfl (Bool.eq_false_iff.2 hc244) ?_
              refine oM hH252 rfl rfl ?_
              refine guard_yes rfl rfl (Bool.eq_false_iff.2 hc244) ?_
              refine op_append (n := 0) T.el56_encT rfl rfl rfl hH252 rfl (Heap.rdw T.el56_encT hH252 (n := 1) rfl) (by first | omega | (simp only [List.length_append, List.length_cons, List.length_nil]; omega)) (fun u253 lo255 hi256 w254 hH257 => ?_)
              refine guard_yes rfl rfl (Bool.eq_false_iff.2 hc244) ?_
              refine op_fnV rfl rfl rfl hH257 (c47 (Heap.rdw T.el56_encT hH257 (n := 0) rfl) (B.ss_len hl24 (by omega) (by omega) hok) (B.ss_each hin0 hee (by omega))) (fun w258 hH259 => ?_)
              refine guard_yes rfl rfl (Bool.eq_false_iff.2 hc244) ?_
              refine ops_y hH259 rfl rfl (yv_not rfl) ?_
              refine ops_y hH259 rfl rfl (yv_pick_f rfl (Bool.eq_false_iff.2 hc244) rfl) ?_
              refine ops_nil (thn_n ?_)
              by_cases hc260 : B.coll ((B.strs l) ++ (B.st e i l.length p).1)
              ·skip
               refine cond_f rfl (not_decide_n hc260) ?_
               refine skip (blk_n (thn_n (region (oM hH259 rfl rfl ?_))))
               refine ops_y hH259 rfl rfl (yv_add rfl rfl (by omega)) ?_
               refine oA hH259 rfl rfl (ops_nil ?_)
               have hH261 := (hH259.sub (sC (sC sR)))
               refine lp_n (t + 1) (uC rfl (uC rfl (uC rfl (uC rfl (uC rfl (uC rfl (uC rfl (uC rfl (Sub.nil _))))))))) ?_ ?_
               ·exact ⟨hH261, by omega⟩
               ·first | (dsimp only; omega) | (show _ < _; omega)
              ·skip
               refine cond_t rfl (not_decide_t hc260) ?_
               refine seq ?_
               have hbad : False := by first | omega | exact absurd hco ‹_› | exact absurd hok (B.bnt ‹_›)
               refine region (oA hH259 rfl rfl (ops_nil (thn_n (ret (blk_r (thn_r (lp_r (blk_r (thn_r ?_)))))))))
               have hH262 := (hH259.sub (sC (sC (sC (sC (sC sR))))))
               refine fin hH262 (fun w' hf => (res1 rfl (show RV _ _ _ (.tmp 8) _ from rfl))) (fun w' hf => ?_)
               first | rfl | exact hbad.elim
           ·skip
            refine any_takes [3, 4, 5, 6, 7, 8, 9, 10] (by kernel_rfl) hH233 _ _ _ (by kernel_rfl) ?_
            refine qs_no rfl rfl rfl (not_decide_t hc234) rfl ?_
            refine qs_no rfl rfl rfl (not_decide_t hc234) rfl ?_
            refine qs_no rfl rfl rfl (not_decide_t hc234) rfl ?_
            refine qs_no rfl rfl rfl (not_decide_t hc234) rfl ?_
            refine qs_no rfl rfl rfl (not_decide_t hc234) rfl ?_
            refine qs_no rfl rfl rfl (not_decide_t hc234) rfl ?_
            refine qs_no rfl rfl rfl (not_decide_t hc234) rfl ?_
            refine qs_y rfl rfl (yv_pick_t rfl (not_decide_t hc234) rfl) ?_
            refine qs_nil ?_
            refine any_done (by kernel_rfl) ?_
            refine thn_n ?_
            refine cond_t rfl rfl ?_
            refine exit (thn_x (blk_here (thn_n (region (oM hH233 rfl rfl ?_)))))
            refine ops_y hH233 rfl rfl (yv_add rfl rfl (by omega)) ?_
            refine oA hH233 rfl rfl (ops_nil ?_)
            refine lp_n (t + 1) (uC rfl (uC rfl (uC rfl (uC rfl (uC rfl (uC rfl (uC rfl (uC rfl (Sub.nil _))))))))) ?_ ?_
            ·exact ⟨hH233, by omega⟩
            ·first | (dsimp only; omega) | (show _ < _; omega)
         ·skip
          refine guard_yes rfl rfl (not_decide_t hc192) ?_
          refine oM hH191 rfl rfl ?_
          refine guard_yes rfl rfl (not_decide_t hc192) ?_
          refine oM hH191 rfl rfl ?_
          refine guard_yes rfl rfl (not_decide_t hc192) ?_
          refine ops_y hH191 rfl rfl (yv_neq rfl rfl) ?_
          refine ops_y hH191 rfl rfl (yv_pick_t rfl (not_decide_t hc192) rfl) ?_
          refine oM hH191 rfl rfl ?_
          by_cases hc263 : (B.cp e (i : Int) (l.length : Int) p (B.root l)) = (B.ckE e)
          ·skip
           refine guard_yes rfl rfl (not_decide_n hc263) ?_
           refine oM hH191 rfl rfl ?_
           refine guard_yes rfl rfl (not_decide_n hc263) ?_
           refine ops_y hH191 rfl rfl (yv_eql rfl rfl) ?_
           refine guard_yes rfl rfl (not_decide_n hc263) ?_
           refine oM hH191 rfl rfl ?_
           by_cases hc264 : (B.ckE e) = 0
           ·skip
            refine guard_yes rfl rfl (dT hc264) ?_
            refine oM hH191 rfl rfl ?_
            refine guard_yes rfl rfl (dT hc264) ?_
            refine ops_y hH191 rfl rfl (yv_neq rfl rfl) ?_
            refine guard_yes rfl rfl (not_decide_n hc263) ?_
            refine ops_y hH191 rfl rfl (yv_pick_t rfl (dT hc264) rfl) ?_
            refine guard_yes rfl rfl (not_decide_n hc263) ?_
            refine oM hH191 rfl rfl ?_
            by_cases hc265 : (B.cp e (i : Int) (l.length : Int) p (B.root l)) = 0
            ·skip
             refine guard_no rfl rfl (not_decide_n hc265) rfl ?_
             refine guard_no rfl rfl (not_decide_n hc265) rfl ?_
             refine guard_yes rfl rfl (not_decide_n hc263) ?_
             refine ops_y hH191 rfl rfl (yv_pick_f rfl (not_decide_n hc265) rfl) ?_
             refine ops_y hH191 rfl rfl (yv_pick_f rfl (not_decide_n hc263) rfl) ?_
             refine ops_nil (thn_n ?_)
             refine cond_f rfl rfl ?_
             refine skip (thn_n (seq (seq ?_)))
             refine region_draw (fun w' => Heap [ow lo23 hi24 32 1 encW p27 (B.path l i), bx b4 38 [(.int .i64 e.n), (.int .i64 e.d), (.int .i64 e.f), (.int .i64 e.t), (.int .i64 e.a)], bx b1 24 [v], base w] w') T.mixed (fun w266 hr267 => ?_)
             have hH268 := hH191.redrawn hr267
             refine any_takes [0, 1, 2, 3, 4, 5, 6, 7, 8, 9, 10] (by kernel_rfl) hH268 _ _ _ (by kernel_rfl) ?_
             refine qM rfl rfl rfl ?_
             refine qs_y rfl rfl (yv_neq rfl rfl) ?_
             refine qM rfl rfl rfl ?_
             refine qs_yes rfl rfl rfl (not_decide_n hc265) rfl (yv_loadA (cs := [(.int .i64 e.n), (.int .i64 e.d), (.int .i64 e.f), (.int .i64 e.t), (.int .i64 e.a)]) T.agg38 rfl rfl (fun _ hw => Heap.cellsw hw (n := 1) rfl (k := 0) rfl)) ?_
             refine qs_yes rfl rfl rfl (not_decide_n hc265) rfl (yv_field T.f24_0 rfl) ?_
             refine qs_yes rfl rfl rfl (not_decide_n hc265) rfl (yv_load T.one22 rfl (fun _ hw => Heap.cellw hw (n := 2) rfl rfl)) ?_
             refine qW rfl rfl rfl (not_decide_n hc265) rfl rfl ?_
             refine qs_yes rfl rfl rfl (not_decide_n hc265) rfl (yv_index T.sl22 rfl rfl (h0.now hH268 (n := 3) rfl).is (by omega)) ?_
             refine qs_yes rfl rfl rfl (not_decide_n hc265) rfl (yv_loadA (cs := [(.int .i64 ((nth l (i : Int)).n)), (.int .i64 ((nth l (i : Int)).d)), (.int .i64 ((nth l (i : Int)).f)), (.int .i64 ((nth l (i : Int)).t)), (.int .i64 ((nth l (i : Int)).a))]) T.agg38 rfl rfl (fun _ hw => Rd.atA (h0.now hw (n := 3) rfl) (i := (i : Int)) (by omega))) ?_
             refine qs_yes rfl rfl rfl (not_decide_n hc265) rfl (yv_eqA (a := [e.n, e.d, e.f, e.t, e.a]) (b := [(nth l (i : Int)).n, (nth l (i : Int)).d, (nth l (i : Int)).f, (nth l (i : Int)).t, (nth l (i : Int)).a]) T.eqi38 rfl rfl rfl rfl) ?_
             refine qs_y rfl rfl (yv_pick_f rfl (not_decide_n hc265) rfl) ?_
             refine qs_nil ?_
             refine any_done (by kernel_rfl) ?_
             refine thn_n ?_
             by_cases hc269 : [e.n, e.d, e.f, e.t, e.a] = [(nth l (i : Int)).n, (nth l (i : Int)).d, (nth l (i : Int)).f, (nth l (i : Int)).t, (nth l (i : Int)).a]
             ·skip
              refine cond_t rfl (dT hc269) ?_
              refine exit (thn_x (blk_here (thn_n (region (oM hH268 rfl rfl ?_)))))
              refine ops_y hH268 rfl rfl (yv_add rfl rfl (by omega)) ?_
              refine oA hH268 rfl rfl (ops_nil ?_)
              refine lp_n (t + 1) (uC rfl (uC rfl (uC rfl (uC rfl (uC rfl (uC rfl (uC rfl (uC rfl (Sub.nil _))))))))) ?_ ?_
              ·exact ⟨hH268, by omega⟩
              ·first | (dsimp only; omega) | (show _ < _; omega)
             ·skip
              refine cond_f rfl (dF hc269) ?_
              refine skip (thn_n (seq ?_))
              have hcz : (B.cp e (i : Int) (l.length : Int) p (B.root l)) = 0 := by omega
              have hz := B.cp_zero hil hl24 hcz
              have hee := (B.ckE_iff.1 hz.1).1
              have hok := hz.2.1
              have hsl := B.strs_len l.length l rfl
              have hsn := ((B.st_ok (e := e) l.length i _ (by omega)).2 hok).2
              have hne : ¬ e = nth l (i : Int) := fun c => absurd (B.lst_inj.2 c) ‹_›
              have hco := B.proved_coll hc0 hil hcz hne
              refine region ?_
              refine ops_y hH268 rfl rfl (yv_loadA (cs := [(.int .i64 e.n), (.int .i64 e.d), (.int .i64 e.f), (.int .i64 e.t), (.int .i64 e.a)]) T.agg38 rfl rfl (fun _ hw => Heap.cellsw hw (n := 1) rfl (k := 0) rfl)) ?_
              refine oM hH268 rfl rfl (oM hH268 rfl rfl (oM hH268 rfl rfl ?_))
              refine op_fn rfl rfl rfl hH268 (c46 (e := e) (i := i) (n := l.length) (p := p) hee (h1.now hH268 (n := 3) rfl) (by omega) (by omega) (by omega)) (fun u272 w270 lo273 hi274 hH271 hv275 => ?_)
              obtain ⟨p277, hu, -⟩ := hv275
              subst hu
              have hH276 := Heap.tup2 hH271 (n := 0) rfl
              refine oM hH276 rfl rfl (ops_y hH276 rfl rfl (yv_extract rfl rfl) (ops_y hH276 rfl rfl (yv_extract rfl rfl) (oA hH276 rfl rfl (oA hH276 rfl rfl (ops_nil (thn_n (seq (region (oM hH276 rfl rfl ?_)))))))))
              refine ops_y hH276 rfl rfl (yv_not rfl) ?_
              refine oM hH276 rfl rfl ?_
              by_cases hc278 : (!((B.st e i l.length p).2)) = true
              ·skip
               refine guard_no rfl rfl hc278 rfl ?_
               refine guard_no rfl rfl hc278 rfl ?_
               refine guard_no rfl rfl hc278 rfl ?_
               refine guard_no rfl rfl hc278 rfl ?_
               refine guard_no rfl rfl hc278 rfl ?_
               refine guard_no rfl rfl hc278 rfl ?_
               refine guard_no rfl rfl hc278 rfl ?_
               refine ops_y hH276 rfl rfl (yv_pick_t rfl hc278 rfl) ?_
               refine ops_nil (thn_n ?_)
               refine cond_t rfl rfl ?_
               refine seq ?_
               have hbad : False := by first | omega | exact absurd hco ‹_› | exact absurd hok (B.bnt ‹_›)
               refine region (oA hH276 rfl rfl (ops_nil (thn_n (ret (blk_r (thn_r (lp_r (blk_r (thn_r ?_)))))))))
               have hH279 := (hH276.sub (sC (sC (sC (sC sR)))))
               refine fin hH279 (fun w' hf => (res1 rfl (show RV _ _ _ (.tmp 8) _ from rfl))) (fun w' hf => ?_)
               first | rfl | exact hbad.elim
              ·skip
               refine guard_yes rfl rfl (Bool.eq_false_iff.2 hc278) ?_
               refine ops_y hH276 rfl rfl (yv_field T.f24_0 rfl) ?_
               refine guard_yes rfl rfl (Bool.eq_false_iff.2 hc278) ?_
               refine ops_y hH276 rfl rfl (yv_load T.one22 rfl (fun _ hw => Heap.cellw hw (n := 3) rfl rfl)) ?_
               refine guard_yes rfl rfl (Bool.eq_false_iff.2 hc278) ?_
               refine op_fn rfl rfl rfl hH276 (c48 (h0.now hH276 (n := 4) rfl) (by omega) hin0) (fun u282 w280 lo283 hi284 hH281 hv285 => ?_)
               have hH286 := Heap.toOw hH281 (n := 0) rfl
               refine guard_yes rfl rfl (Bool.eq_false_iff.2 hc278) ?_
               refine oM hH286 rfl rfl ?_
               refine guard_yes rfl rfl (Bool.eq_false_iff.2 hc278) ?_
               refine op_append (n := 0) T.el56_encT rfl rfl rfl hH286 rfl (Heap.rdw T.el56_encT hH286 (n := 1) rfl) (by first | omega | (simp only [List.length_append, List.length_cons, List.length_nil]; omega)) (fun u287 lo289 hi290 w288 hH291 => ?_)
               refine guard_yes rfl rfl (Bool.eq_false_iff.2 hc278) ?_
               refine op_fnV rfl rfl rfl hH291 (c47 (Heap.rdw T.el56_encT hH291 (n := 0) rfl) (B.ss_len hl24 (by omega) (by omega) hok) (B.ss_each hin0 hee (by omega))) (fun w292 hH293 => ?_)
               refine guard_yes rfl rfl (Bool.eq_false_iff.2 hc278) ?_
               refine ops_y hH293 rfl rfl (yv_not rfl) ?_
               refine ops_y hH293 rfl rfl (yv_pick_f rfl (Bool.eq_false_iff.2 hc278) rfl) ?_
               refine ops_nil (thn_n ?_)
               by_cases hc294 : B.coll ((B.strs l) ++ (B.st e i l.length p).1)
               ·skip
                refine cond_f rfl (not_decide_n hc294) ?_
                refine skip (blk_n (thn_n (region (oM hH293 rfl rfl ?_))))
                refine ops_y hH293 rfl rfl (yv_add rfl rfl (by omega)) ?_
                refine oA hH293 rfl rfl (ops_nil ?_)
                have hH295 := (hH293.sub (sC (sC sR)))
                refine lp_n (t + 1) (uC rfl (uC rfl (uC rfl (uC rfl (uC rfl (uC rfl (uC rfl (uC rfl (Sub.nil _))))))))) ?_ ?_
                ·exact ⟨hH295, by omega⟩
                ·first | (dsimp only; omega) | (show _ < _; omega)
               ·skip
                refine cond_t rfl (not_decide_t hc294) ?_
                refine seq ?_
                have hbad : False := by first | omega | exact absurd hco ‹_› | exact absurd hok (B.bnt ‹_›)
                refine region (oA hH293 rfl rfl (ops_nil (thn_n (ret (blk_r (thn_r (lp_r (blk_r (thn_r ?_)))))))))
                have hH296 := (hH293.sub (sC (sC (sC (sC (sC sR))))))
                refine fin hH296 (fun w' hf => (res1 rfl (show RV _ _ _ (.tmp 8) _ from rfl))) (fun w' hf => ?_)
                first | rfl | exact hbad.elim
            ·skip
             refine guard_yes rfl rfl (not_decide_t hc265) ?_
             refine oM hH191 rfl rfl ?_
             refine guard_yes rfl rfl (not_decide_t hc265) ?_
             refine ops_y hH191 rfl rfl (yv_neq rfl rfl) ?_
             refine guard_yes rfl rfl (not_decide_n hc263) ?_
             refine ops_y hH191 rfl rfl (yv_pick_t rfl (not_decide_t hc265) rfl) ?_
             refine ops_y hH191 rfl rfl (yv_pick_f rfl (not_decide_n hc263) rfl) ?_
             refine ops_nil (thn_n ?_)
             by_cases hc297 : (B.cp e (i : Int) (l.length : Int) p (B.root l)) = 25
             ·skip
              refine cond_f rfl (not_decide_n hc297) ?_
              refine skip (thn_n (seq (seq ?_)))
              refine region_draw (fun w' => Heap [ow lo23 hi24 32 1 encW p27 (B.path l i), bx b4 38 [(.int .i64 e.n), (.int .i64 e.d), (.int .i64 e.f), (.int .i64 e.t), (.int .i64 e.a)], bx b1 24 [v], base w] w') T.mixed (fun w298 hr299 => ?_)
              have hH300 := hH191.redrawn hr299
              refine any_takes [0, 1, 2, 3, 4, 5, 6, 7, 8, 9, 10] (by kernel_rfl) hH300 _ _ _ (by kernel_rfl) ?_
              refine qM rfl rfl rfl ?_
              refine qs_y rfl rfl (yv_neq rfl rfl) ?_
              refine qM rfl rfl rfl ?_
              refine qs_no rfl rfl rfl (not_decide_t hc265) rfl ?_
              refine qs_no rfl rfl rfl (not_decide_t hc265) rfl ?_
              refine qs_no rfl rfl rfl (not_decide_t hc265) rfl ?_
              refine qs_no rfl rfl rfl (not_decide_t hc265) rfl ?_
              refine qs_no rfl rfl rfl (not_decide_t hc265) rfl ?_
              refine qs_no rfl rfl rfl (not_decide_t hc265) rfl ?_
              refine qs_no rfl rfl rfl (not_decide_t hc265) rfl ?_
              refine qs_y rfl rfl (yv_pick_t rfl (not_decide_t hc265) rfl) ?_
              refine qs_nil ?_
              refine any_done (by kernel_rfl) ?_
              refine thn_n ?_
              refine cond_t rfl rfl ?_
              refine exit (thn_x (blk_here (thn_n (region (oM hH300 rfl rfl ?_)))))
              refine ops_y hH300 rfl rfl (yv_add rfl rfl (by omega)) ?_
              refine oA hH300 rfl rfl (ops_nil ?_)
              refine lp_n (t + 1) (uC rfl (uC rfl (uC rfl (uC rfl (uC rfl (uC rfl (uC rfl (uC rfl (Sub.nil _))))))))) ?_ ?_
              ·exact ⟨hH300, by omega⟩
              ·first | (dsimp only; omega) | (show _ < _; omega)
             ·skip
              refine cond_t rfl (not_decide_t hc297) ?_
              refine seq ?_
              have hbad : False := by omega
              refine region (oA hH191 rfl rfl (ops_nil (thn_n (ret (thn_r (blk_r (thn_r (lp_r (blk_r ?_)))))))))
              refine thn_r ?_
              have hH301 := (hH191.sub (sC (sC (sC sR))))
              refine fin hH301 (fun w' hf => (res1 rfl (show RV _ _ _ (.tmp 8) _ from rfl))) (fun w' hf => ?_)
              first | rfl | exact hbad.elim
           ·skip
            refine guard_no rfl rfl (dF hc264) rfl ?_
            refine guard_no rfl rfl (dF hc264) rfl ?_
            refine guard_yes rfl rfl (not_decide_n hc263) ?_
            refine ops_y hH191 rfl rfl (yv_pick_f rfl (dF hc264) rfl) ?_
            refine guard_yes rfl rfl (not_decide_n hc263) ?_
            refine oM hH191 rfl rfl (guard_no rfl rfl rfl rfl (guard_no rfl rfl rfl rfl ?_))
            refine guard_yes rfl rfl (not_decide_n hc263) ?_
            refine ops_y hH191 rfl rfl (yv_pick_f rfl rfl rfl) ?_
            refine ops_y hH191 rfl rfl (yv_pick_f rfl (not_decide_n hc263) rfl) ?_
            refine ops_nil (thn_n ?_)
            refine cond_f rfl rfl ?_
            refine skip (thn_n (seq (seq ?_)))
            refine region_draw (fun w' => Heap [ow lo23 hi24 32 1 encW p27 (B.path l i), bx b4 38 [(.int .i64 e.n), (.int .i64 e.d), (.int .i64 e.f), (.int .i64 e.t), (.int .i64 e.a)], bx b1 24 [v], base w] w') T.mixed (fun w302 hr303 => ?_)
            have hH304 := hH191.redrawn hr303
            refine any_takes [0, 1, 2] (by kernel_rfl) hH304 _ _ _ (by kernel_rfl) ?_
            refine qM rfl rfl rfl ?_
            refine qs_y rfl rfl (yv_neq rfl rfl) ?_
            refine qM rfl rfl rfl (qs_nil ?_)
            by_cases hc305 : (B.cp e (i : Int) (l.length : Int) p (B.root l)) = 0
            ·skip
             refine any_takes [3, 4, 5, 6, 7, 8, 9, 10] (by kernel_rfl) hH304 _ _ _ (by kernel_rfl) ?_
             refine qs_yes rfl rfl rfl (not_decide_n hc305) rfl (yv_loadA (cs := [(.int .i64 e.n), (.int .i64 e.d), (.int .i64 e.f), (.int .i64 e.t), (.int .i64 e.a)]) T.agg38 rfl rfl (fun _ hw => Heap.cellsw hw (n := 1) rfl (k := 0) rfl)) ?_
             refine qs_yes rfl rfl rfl (not_decide_n hc305) rfl (yv_field T.f24_0 rfl) ?_
             refine qs_yes rfl rfl rfl (not_decide_n hc305) rfl (yv_load T.one22 rfl (fun _ hw => Heap.cellw hw (n := 2) rfl rfl)) ?_
             refine qW rfl rfl rfl (not_decide_n hc305) rfl rfl ?_
             refine qs_yes rfl rfl rfl (not_decide_n hc305) rfl (yv_index T.sl22 rfl rfl (h0.now hH304 (n := 3) rfl).is (by omega)) ?_
             refine qs_yes rfl rfl rfl (not_decide_n hc305) rfl (yv_loadA (cs := [(.int .i64 ((nth l (i : Int)).n)), (.int .i64 ((nth l (i : Int)).d)), (.int .i64 ((nth l (i : Int)).f)), (.int .i64 ((nth l (i : Int)).t)), (.int .i64 ((nth l (i : Int)).a))]) T.agg38 rfl rfl (fun _ hw => Rd.atA (h0.now hw (n := 3) rfl) (i := (i : Int)) (by omega))) ?_
             refine qs_yes rfl rfl rfl (not_decide_n hc305) rfl (yv_eqA (a := [e.n, e.d, e.f, e.t, e.a]) (b := [(nth l (i : Int)).n, (nth l (i : Int)).d, (nth l (i : Int)).f, (nth l (i : Int)).t, (nth l (i : Int)).a]) T.eqi38 rfl rfl rfl rfl) ?_
             refine qs_y rfl rfl (yv_pick_f rfl (not_decide_n hc305) rfl) ?_
             refine qs_nil ?_
             refine any_done (by kernel_rfl) ?_
             refine thn_n ?_
             by_cases hc306 : [e.n, e.d, e.f, e.t, e.a] = [(nth l (i : Int)).n, (nth l (i : Int)).d, (nth l (i : Int)).f, (nth l (i : Int)).t, (nth l (i : Int)).a]
             ·skip
              refine cond_t rfl (dT hc306) ?_
              refine exit (thn_x (blk_here (thn_n (region (oM hH304 rfl rfl ?_)))))
              refine ops_y hH304 rfl rfl (yv_add rfl rfl (by omega)) ?_
              refine oA hH304 rfl rfl (ops_nil ?_)
              refine lp_n (t + 1) (uC rfl (uC rfl (uC rfl (uC rfl (uC rfl (uC rfl (uC rfl (uC rfl (Sub.nil _))))))))) ?_ ?_
              ·exact ⟨hH304, by omega⟩
              ·first | (dsimp only; omega) | (show _ < _; omega)
             ·skip
              refine cond_f rfl (dF hc306) ?_
              refine skip (thn_n (seq ?_))
              have hcz : (B.cp e (i : Int) (l.length : Int) p (B.root l)) = 0 := by omega
              have hz := B.cp_zero hil hl24 hcz
              have hee := (B.ckE_iff.1 hz.1).1
              have hok := hz.2.1
              have hsl := B.strs_len l.length l rfl
              have hsn := ((B.st_ok (e := e) l.length i _ (by omega)).2 hok).2
              have hne : ¬ e = nth l (i : Int) := fun c => absurd (B.lst_inj.2 c) ‹_›
              have hco := B.proved_coll hc0 hil hcz hne
              refine region ?_
              refine ops_y hH304 rfl rfl (yv_loadA (cs := [(.int .i64 e.n), (.int .i64 e.d), (.int .i64 e.f), (.int .i64 e.t), (.int .i64 e.a)]) T.agg38 rfl rfl (fun _ hw => Heap.cellsw hw (n := 1) rfl (k := 0) rfl)) ?_
              refine oM hH304 rfl rfl (oM hH304 rfl rfl (oM hH304 rfl rfl ?_))
              refine op_fn rfl rfl rfl hH304 (c46 (e := e) (i := i) (n := l.length) (p := p) hee (h1.now hH304 (n := 3) rfl) (by omega) (by omega) (by omega)) (fun u309 w307 lo310 hi311 hH308 hv312 => ?_)
              obtain ⟨p314, hu, -⟩ := hv312
              subst hu
              have hH313 := Heap.tup2 hH308 (n := 0) rfl
              refine oM hH313 rfl rfl (ops_y hH313 rfl rfl (yv_extract rfl rfl) (ops_y hH313 rfl rfl (yv_extract rfl rfl) (oA hH313 rfl rfl (oA hH313 rfl rfl (ops_nil (thn_n (seq (region (oM hH313 rfl rfl ?_)))))))))
              refine ops_y hH313 rfl rfl (yv_not rfl) ?_
              refine oM hH313 rfl rfl ?_
              by_cases hc315 : (!((B.st e i l.length p).2)) = true
              ·skip
               refine guard_no rfl rfl hc315 rfl ?_
               refine guard_no rfl rfl hc315 rfl ?_
               refine guard_no rfl rfl hc315 rfl ?_
               refine guard_no rfl rfl hc315 rfl ?_
               refine guard_no rfl rfl hc315 rfl ?_
               refine guard_no rfl rfl hc315 rfl ?_
               refine guard_no rfl rfl hc315 rfl ?_
               refine ops_y hH313 rfl rfl (yv_pick_t rfl hc315 rfl) ?_
               refine ops_nil (thn_n ?_)
               refine cond_t rfl rfl ?_
               refine seq ?_
               have hbad : False := by first | omega | exact absurd hco ‹_› | exact absurd hok (B.bnt ‹_›)
               refine region (oA hH313 rfl rfl (ops_nil (thn_n (ret (blk_r (thn_r (lp_r (blk_r (thn_r ?_)))))))))
               have hH316 := (hH313.sub (sC (sC (sC (sC sR)))))
               refine fin hH316 (fun w' hf => (res1 rfl (show RV _ _ _ (.tmp 8) _ from rfl))) (fun w' hf => ?_)
               first | rfl | exact hbad.elim
              ·skip
               refine guard_yes rfl rfl (Bool.eq_false_iff.2 hc315) ?_
               refine ops_y hH313 rfl rfl (yv_field T.f24_0 rfl) ?_
               refine guard_yes rfl rfl (Bool.eq_false_iff.2 hc315) ?_
               refine ops_y hH313 rfl rfl (yv_load T.one22 rfl (fun _ hw => Heap.cellw hw (n := 3) rfl rfl)) ?_
               refine guard_yes rfl rfl (Bool.eq_false_iff.2 hc315) ?_
               refine op_fn rfl rfl rfl hH313 (c48 (h0.now hH313 (n := 4) rfl) (by omega) hin0) (fun u319 w317 lo320 hi321 hH318 hv322 => ?_)
               have hH323 := Heap.toOw hH318 (n := 0) rfl
               refine guard_yes rfl rfl (Bool.eq_false_iff.2 hc315) ?_
               refine oM hH323 rfl rfl ?_
               refine guard_yes rfl rfl (Bool.eq_false_iff.2 hc315) ?_
               refine op_append (n := 0) T.el56_encT rfl rfl rfl hH323 rfl (Heap.rdw T.el56_encT hH323 (n := 1) rfl) (by first | omega | (simp only [List.length_append, List.length_cons, List.length_nil]; omega)) (fun u324 lo326 hi327 w325 hH328 => ?_)
               refine guard_yes rfl rfl (Bool.eq_false_iff.2 hc315) ?_
               refine op_fnV rfl rfl rfl hH328 (c47 (Heap.rdw T.el56_encT hH328 (n := 0) rfl) (B.ss_len hl24 (by omega) (by omega) hok) (B.ss_each hin0 hee (by omega))) (fun w329 hH330 => ?_)
               refine guard_yes rfl rfl (Bool.eq_false_iff.2 hc315) ?_
               refine ops_y hH330 rfl rfl (yv_not rfl) ?_
               refine ops_y hH330 rfl rfl (yv_pick_f rfl (Bool.eq_false_iff.2 hc315) rfl) ?_
               refine ops_nil (thn_n ?_)
               by_cases hc331 : B.coll ((B.strs l) ++ (B.st e i l.length p).1)
               ·skip
                refine cond_f rfl (not_decide_n hc331) ?_
                refine skip (blk_n (thn_n (region (oM hH330 rfl rfl ?_))))
                refine ops_y hH330 rfl rfl (yv_add rfl rfl (by omega)) ?_
                refine oA hH330 rfl rfl (ops_nil ?_)
                have hH332 := (hH330.sub (sC (sC sR)))
                refine lp_n (t + 1) (uC rfl (uC rfl (uC rfl (uC rfl (uC rfl (uC rfl (uC rfl (uC rfl (Sub.nil _))))))))) ?_ ?_
                ·exact ⟨hH332, by omega⟩
                ·first | (dsimp only; omega) | (show _ < _; omega)
               ·skip
                refine cond_t rfl (not_decide_t hc331) ?_
                refine seq ?_
                have hbad : False := by first | omega | exact absurd hco ‹_› | exact absurd hok (B.bnt ‹_›)
                refine region (oA hH330 rfl rfl (ops_nil (thn_n (ret (blk_r (thn_r (lp_r (blk_r (thn_r ?_)))))))))
                have hH333 := (hH330.sub (sC (sC (sC (sC (sC sR))))))
                refine fin hH333 (fun w' hf => (res1 rfl (show RV _ _ _ (.tmp 8) _ from rfl))) (fun w' hf => ?_)
                first | rfl | exact hbad.elim
            ·skip
             refine any_takes [3, 4, 5, 6, 7, 8, 9, 10] (by kernel_rfl) hH304 _ _ _ (by kernel_rfl) ?_
             refine qs_no rfl rfl rfl (not_decide_t hc305) rfl ?_
             refine qs_no rfl rfl rfl (not_decide_t hc305) rfl ?_
             refine qs_no rfl rfl rfl (not_decide_t hc305) rfl ?_
             refine qs_no rfl rfl rfl (not_decide_t hc305) rfl ?_
             refine qs_no rfl rfl rfl (not_decide_t hc305) rfl ?_
             refine qs_no rfl rfl rfl (not_decide_t hc305) rfl ?_
             refine qs_no rfl rfl rfl (not_decide_t hc305) rfl ?_
             refine qs_y rfl rfl (yv_pick_t rfl (not_decide_t hc305) rfl) ?_
             refine qs_nil ?_
             refine any_done (by kernel_rfl) ?_
             refine thn_n ?_
             refine cond_t rfl rfl ?_
             refine exit (thn_x (blk_here (thn_n (region (oM hH304 rfl rfl ?_)))))
             refine ops_y hH304 rfl rfl (yv_add rfl rfl (by omega)) ?_
             refine oA hH304 rfl rfl (ops_nil ?_)
             refine lp_n (t + 1) (uC rfl (uC rfl (uC rfl (uC rfl (uC rfl (uC rfl (uC rfl (uC rfl (Sub.nil _))))))))) ?_ ?_
             ·exact ⟨hH304, by omega⟩
             ·first | (dsimp only; omega) | (show _ < _; omega)
          ·skip
           refine guard_no rfl rfl (not_decide_t hc263) rfl ?_
           refine guard_no rfl rfl (not_decide_t hc263) rfl ?_
           refine guard_no rfl rfl (not_decide_t hc263) rfl ?_
           refine guard_none rfl rfl rfl ?_
           refine guard_none rfl rfl rfl ?_
           refine guard_no rfl rfl (not_decide_t hc263) rfl ?_
           refine guard_no rfl rfl (not_decide_t hc263) rfl ?_
           refine guard_none rfl rfl rfl ?_
           refine guard_none rfl rfl rfl ?_
           refine guard_no rfl rfl (not_decide_t hc263) rfl ?_
           refine ops_y hH191 rfl rfl (yv_pick_t rfl (not_decide_t hc263) rfl) ?_
           refine ops_nil (thn_n ?_)
           refine cond_t rfl rfl ?_
           refine seq ?_
           have hbad : False := by omega
           refine region (oA hH191 rfl rfl (ops_nil (thn_n (ret (thn_r (blk_r (thn_r (lp_r (blk_r ?_)))))))))
           refine thn_r ?_
           have hH334 := (hH191.sub (sC (sC (sC sR))))
           refine fin hH334 (fun w' hf => (res1 rfl (show RV _ _ _ (.tmp 8) _ from rfl))) (fun w' hf => ?_)
           first | rfl | exact hbad.elim
       ·skip
        refine cond_f rfl (dF hc39) ?_
        refine exit (thn_x (lp_x (blk_here (thn_n (seq (region ?_))))))
        refine op_fnV rfl rfl rfl hH38 (c18 (hG.now hH38 (n := 3) rfl)) (fun w335 hH336 => ?_)
        refine oA hH336 rfl rfl (ops_nil (thn_n (ret ?_)))
        have hH337 := (hH336.sub (sC (sC (sC sR))))
        refine fin hH337 (fun w' hf => (res1 rfl (show RV _ _ _ (.tmp 8) _ from rfl))) (fun w' hf => ?_)
        first | rfl | exact hbad.elim
     ·skip
      refine guard_no rfl rfl (not_decide_t hc34) rfl ?_
      refine guard_no rfl rfl (not_decide_t hc34) rfl ?_
      refine guard_no rfl rfl (not_decide_t hc34) rfl ?_
      refine guard_no rfl rfl (not_decide_t hc34) rfl ?_
      refine guard_no rfl rfl (not_decide_t hc34) rfl ?_
      refine guard_no rfl rfl (not_decide_t hc34) rfl ?_
      refine guard_no rfl rfl (not_decide_t hc34) rfl ?_
      refine guard_no rfl rfl (not_decide_t hc34) rfl ?_
      refine guard_no rfl rfl (not_decide_t hc34) rfl ?_
      refine guard_no rfl rfl (not_decide_t hc34) rfl ?_
      refine guard_no rfl rfl (not_decide_t hc34) rfl ?_
      refine ops_y hH33 rfl rfl (yv_pick_t rfl (not_decide_t hc34) rfl) ?_
      refine ops_nil (thn_n ?_)
      refine cond_t rfl rfl ?_
      refine seq ?_
      have hbad : False := by first | omega | exact absurd rfl ‹_›
      refine region (oA hH33 rfl rfl (ops_nil (thn_n (ret (thn_r ?_)))))
      have hH338 := (hH33.sub (sC (sC (sC sR))))
      refine fin hH338 (fun w' hf => (res1 rfl (show RV _ _ _ (.tmp 8) _ from rfl))) (fun w' hf => ?_)
      first | rfl | exact hbad.elim
 ·skip
  refine guard_no rfl rfl (not_decide_t hc9) rfl ?_
  refine guard_no rfl rfl (not_decide_t hc9) rfl ?_
  refine guard_no rfl rfl (not_decide_t hc9) rfl ?_
  refine guard_no rfl rfl (not_decide_t hc9) rfl ?_
  refine ops_y hH8 rfl rfl (yv_pick_t rfl (not_decide_t hc9) rfl) ?_
  refine oM hH8 rfl rfl (guard_no rfl rfl rfl rfl (guard_no rfl rfl rfl rfl (guard_no rfl rfl rfl rfl ?_)))
  refine ops_y hH8 rfl rfl (yv_pick_t rfl rfl rfl) ?_
  refine ops_nil (thn_n ?_)
  refine cond_t rfl rfl ?_
  refine seq (region ?_)
  refine op_fnV rfl rfl rfl hH8 (c18 (hG.now hH8 (n := 2) rfl)) (fun w339 hH340 => ?_)
  refine oA hH340 rfl rfl (ops_nil (thn_n (ret (thn_r ?_))))
  have hH341 := (hH340.sub (sC (sC sR)))
  refine fin hH341 (fun w' hf => (res1 rfl (show RV _ _ _ (.tmp 8) _ from rfl))) (fun w' hf => ?_)
  first | rfl | exact hbad.elim
end Go.Fip
