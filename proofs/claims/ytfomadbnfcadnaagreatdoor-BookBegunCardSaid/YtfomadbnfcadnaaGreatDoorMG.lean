/- Joined texts: Gj, Wt, Bj, Wu, Wv, Ww. -/
import Derived.Test.YtfomadbnfcadnaaGreatDoorMB
import Derived.Shelf.SlSortCmp.WholeK
import Derived.Test.YtfomadbnfcadnaaGreatDoorMF
import Derived.Shelf.SlSortCmp.NoneTotal
set_option linter.unusedVariables false
set_option linter.unusedSimpArgs false
set_option linter.unusedSectionVars false
set_option linter.unnecessarySimpa false
namespace Go.Fip
open Go.Proofs Go.Shelf Go.RowKit Go.Lib Go.Sort
def Gr (w w' : World) : Prop := ∃ n os, w' = grow (w.drewN n) os
theorem Gr.refl (w : World) : Gr w w := ⟨0, #[], (grow_empty _).symm⟩
theorem Gr.alloc {w w' : World} (h : Gr w w') (o : Obj) : Gr w (w'.alloc o) := by
  obtain ⟨n, os, rfl⟩ := h
  exact ⟨n, os ++ #[o], by rw [alloc_eq_grow, grow_grow]⟩
theorem Gr.draw {w w' : World} (h : Gr w w') : Gr w { w' with drawn := w'.drawn + 1 } := by
  obtain ⟨n, os, rfl⟩ := h
  exact ⟨n + 1, os, rfl⟩
section
variable {r : Option Nat} {P : Program} {N : Nat} {ds : List Deferred} {env : Env} {w w0 : World} {Q : Post} {all : Array Oper} {rest : List Oper} {H : List Item} {x y : Operand} {v u : Value}
  {d : Nat} {ty : TypeId} {pos : String} {after : Array Edge}
theorem op_boxG {T : Nat} {us : List Value} (hG : Gr w0 w) (hx : ev env x = some v) (hus : v.cells = us.toArray) (hd : Nat.blt d N = true) (hH : Heap H w)
    (h : ∀ b w', Heap (bx b T us :: H) w' → Gr w0 w' → Ops r P N all rest ds ((d, .pointer (some ⟨b, 0, none⟩)) :: env) w' Q) :
    Ops r P N all (⟨some d, .box T x, ty, pos, after, none⟩ :: rest) ds env w Q :=
  ops_val hd (fun c hc => by cases hc) (fun a ha => by
    simp only [execOp, Instr.box, newVar, newRow, newObj, ha.ev hx, hus, Sem.run_bind, Sem.run_pure, Sem.run, Result.andThen]
    rfl) (h _ _ (hH.add (below_alloc w _) (Nat.le_refl _) (bx_ok (heap_new w (.cells us.toArray T)))) (hG.alloc _))
theorem op_litG {α : Type} {T E sz n : Nat} {enc : α → List Value} {ps : Array (Nat × Operand)} {us : List (Nat × Value)} (hG : Gr w0 w) (hE : El P T E sz enc) (xs : List α) (hl : xs.length = n) (hn : n ≤ 1000000)
    (hd : Nat.blt d N = true) (hx : ∀ a, Fits N a ds env → (ps.map fun (i, x) => (i, a.eval x)) = us.toArray)
    (hr : ∀ w, (Instr.buildSlice T n us.toArray).run P w = .ok (.slice (some ⟨w.heap.size, 0, none⟩) n n) (w.alloc (.cells (xs.flatMap enc).toArray E)))
    (hH : Heap H w)
    (h : ∀ v lo hi w', Heap (ow lo hi E sz enc v xs :: H) w' → Gr w0 w' → Ops r P N all rest ds ((d, v) :: env) w' Q) :
    Ops r P N all (⟨some d, .buildSlice T n ps, ty, pos, after, none⟩ :: rest) ds env w Q := by
  subst hl
  refine ops_val hd (fun c hc => by cases hc) (fun a ha => ?_) (h _ _ _ _ (hH.add (below_alloc w _) (Nat.le_refl _) (ow_lit_item hE xs hn w)) (hG.alloc _))
  simp only [execOp, hx a ha, Sem.run_bind, hr w, Sem.run_pure, Result.andThen]
theorem region_drawG {id : Nat} {l : List Oper} (S : World → Prop) (hG : Gr w0 w) (hm : P.follows .mixedOrders = true)
    (h : ∀ w1, Redrawn w w1 → Gr w0 w1 → AnyE r P N S l.toArray l.length (Array.replicate l.length false) ds env w1 Q) : Holds r P N (.region id l.toArray true) ds env w Q := by
  intro a ha
  refine Go.wpIn_mono (Q := only fun a w => lift N Q .normal a w) ?_ ?_
  · refine wpIn_region_any hm (wpAny_of_AnyS (S := S) _ _ _ _ ?_)
    have := h { w with drawn := w.drawn + 1 } ⟨rfl, rfl, rfl, rfl⟩ hG.draw a ha
    simpa using this
  · intro e a' w' hq
    cases e with
    | normal => exact hq
    | _ => exact hq.elim
end
structure FnG (P : Program) (f : FuncId) (args : Array Value) (w : World) (v : Value) : Prop where
  enters : ∀ w', (callFunc f args).run P w' = .ok (.enter f args) w'
  calls : CallsIn Fence.wide 0 P f args w fun e w' => e = .returned v ∧ Gr w w'
def bodyQG (P : Program) (fn : Func) (N : Nat) (w0 : World) (v : Value) : Post
  | .normal, ds, env, w | .ret, ds, env, w => ds = [] ∧ Gr w0 w ∧ Results P fn N [] env w v
  | _, _, _, _ => False
theorem finG {P : Program} {fn : Func} {N : Nat} {w0 w : World} {v v' : Value} {env : Env} (hG : Gr w0 w) (hres : Results P fn N [] env w v') (e : v' = v) : bodyQG P fn N w0 v .ret [] env w := ⟨rfl, hG, e ▸ hres⟩
theorem fnG_of {P : Program} {f : FuncId} {fn : Func} {c : Code} {args : List Value} {w : World} {v : Value} {N : Nat}
    (hf : P.funcs[f]? = some fn) (hb : fn.body = some c) (hen : ∀ (xs : Array Value) (w' : World), (callFunc f xs).run P w' = .ok (.enter f xs) w')
    (hN : fn.ntmps = N) (hargs : Nat.ble args.length N = true)
    (h : Heap [base w] w → Gr w w → Holds none P N c [] (argEnv 0 args) w (bodyQG P fn N w v)) : FnG P f args.toArray w v := by
  refine ⟨hen _, callsIn_of_wp hf hb trivial ?_⟩
  have hargs' : args.length ≤ N := by simpa [Nat.ble_eq] using hargs
  refine Go.wpIn_mono (h (Heap.start w) (Gr.refl w) { tmps := args.toArray ++ Array.replicate (fn.ntmps - args.toArray.size) undef, defers := [] } ⟨by simp [hN]; omega, rfl, fun i v hi => ?_⟩) ?_
  · have h1 : args[i]? = some v := by simpa using (argEnv_find args 0 i v hi).2
    have hlt := (List.getElem?_eq_some_iff.1 h1).1
    simp only [Array.getElem?_append, List.size_toArray, hlt, if_true, List.getElem?_toArray]
    exact h1
  · rintro e a' w' ⟨ds, env', hf', hq⟩
    cases e with
    | normal => obtain ⟨rfl, hG, hr⟩ := hq; exact ⟨hf'.defers, _, hr a' hf', rfl, hG⟩
    | ret => obtain ⟨rfl, hG, hr⟩ := hq; exact ⟨hf'.defers, _, hr a' hf', rfl, hG⟩
    | exit i => exact hq.elim
    | goto i => exact hq.elim
    | panic i => exact hq.elim
    | outgrown => exact hq.elim
theorem sortWorldK_block {α : Type} [Inhabited α] {enc : α → List Value} {sz : Nat} {w : World} {g off m k : Nat} {dk : Array α} {os : Array Obj} (hk : k < w.heap.size) (hne : k ≠ g) : (sortWorldK enc sz w g off m dk os).heap[k]? = w.heap[k]? := by
  unfold sortWorldK grow putRowK putRow mapBlock
  show ((Sort.ahead w m).heap.modify g _ ++ os)[k]? = _
  rw [Array.getElem?_append_left (by simpa [Sort.ahead] using hk)]
  simp [Sort.ahead, Array.getElem?_modify, Ne.symm hne]
theorem sortWorldK_own {α : Type} [Inhabited α] {enc : α → List Value} {sz : Nat} {w : World} {g off m : Nat} {dk : Array α} {os : Array Obj} {cur : Array Value} {e : TypeId} {fz : Nat × Nat} (hg : w.heap[g]? = some (.cells cur e fz)) : (sortWorldK enc sz w g off m dk os).heap[g]? = some (.cells (putCells id off (flatK enc sz dk) cur) e fz) := by
  have hlt := (Array.getElem?_eq_some_iff.1 hg).1
  unfold sortWorldK grow putRowK putRow mapBlock
  show ((Sort.ahead w m).heap.modify g _ ++ os)[g]? = _
  rw [Array.getElem?_append_left (by simpa [Sort.ahead] using hlt)]
  simp [Sort.ahead, Array.getElem?_modify, hg, onCells]
theorem flatK_flat {α : Type} [Inhabited α] {enc : α → List Value} {sz : Nat} (hl : ∀ x, (enc x).length = sz) (hp : 0 < sz) (d : Array α) {t : Nat} (ht : t < d.size * sz) : (d.toList.flatMap enc)[t]? = some (flatK enc sz d)[t]! := by
  have h1 : t / sz < d.size := Nat.div_lt_of_lt_mul (by rw [Nat.mul_comm]; exact ht)
  have h2 : t % sz < sz := Nat.mod_lt _ hp
  have h3 := get_flatMap_enc hl d.toList (t / sz) d[t / sz]! (t % sz) ((enc d[t / sz]!)[t % sz]!) (by rw [Array.getElem?_toList, Array.getElem?_eq_getElem h1, getElem!_pos d _ h1]) (by
    have h4 : t % sz < (enc d[t / sz]!).length := by rw [hl]; exact h2
    exact (List.getElem?_eq_getElem h4).trans (congrArg some (getElem!_pos (enc d[t / sz]!) (t % sz) h4).symm))
  rw [get_flatK _ _ _ _ ht, ← h3, Nat.mul_comm, Nat.div_add_mod]
def sortCmp (cf : En → En → Int) (l : List En) (l' : List En) : Prop := l'.Perm l ∧ l'.Pairwise fun a b => ¬ cf b a < 0
theorem extract_allE {α : Type} {a : Array α} {k : Nat} (h : a.size = k) : (a.extract 0 k).toList = a.toList := by subst h; rw [Array.extract_size]
theorem sortE_fnM {P : Program} {ρ : Ren} (L : SlLaysF0.n6 P ρ) (aE : ∀ w, (isAgg (ρ.t 24)).run P w = .ok true w) (zE : ∀ w, (Go.sizeOf (ρ.t 24)).run P w = .ok 5 w) {f E : Nat} {v : Value} {l : List En} {g : Nat} {w : World} {cf : En → En → Int} (hO : SWO (ltOf cf))
    (eg : ∀ args w, (callFunc f args).run P w = .ok (.enter f args) w) (en : ∀ args w, (callFunc (ρ.f 6) args).run P w = .ok (.enter (ρ.f 6) args) w)
    (hcmp : ∀ (W : World) (x y : En), FnG P f #[.agg (encE x).toArray, .agg (encE y).toArray] W (.int .i64 (cf x y)))
    (hown : Own E 5 encE v l w) (hg : v.ownBlock = some g) (h1 : 1 ≤ l.length) (hsz : l.length ≤ 1000000) :
    FnM P (ρ.f 6) #[v, .func (.func f) #[] #[]] w g (fun u w' => u = .tuple #[] ∧ ∃ l', sortCmp cf l l' ∧ Own E 5 encE v l' w') := by
  have hrd := Own.rd (enc := encE) (sz := 5) (fun _ => rfl) hown
  obtain ⟨hxs, hv⟩ := hown
  rcases hv with ⟨_, h0⟩ | ⟨g', cap, cur, hv, _, hb, hnc, hcap, hcs, hcur⟩
  · omega
  have hgg : g' = g := by rw [hv] at hg; exact Option.some.inj hg
  subst hgg
  have hlt := (Array.getElem?_eq_some_iff.1 hb).1
  let n := l.length
  let d : Array En := l.toArray
  have hds : d.size = n := by simp [d, n]
  have hH : HoldsK encE 5 w g' 0 d := fun j hj => by
    rw [size_flatK, hds] at hj
    have hj5 : j / 5 < n := Nat.div_lt_of_lt_mul (by rw [Nat.mul_comm]; exact hj)
    constructor
    · rw [get_flatK _ _ _ _ (by rw [hds]; exact hj)]
      have hm5 : j % 5 < 5 := Nat.mod_lt _ (by decide)
      have h4 : j % 5 < (encE d[j / 5]!).length := hm5
      have h2 := hrd.2 (j / 5) d[j / 5]! (by rw [getElem!_pos d _ (by rw [hds]; exact hj5)]; simp [d]) (j % 5) (encE d[j / 5]!)[j % 5]! ((List.getElem?_eq_getElem h4).trans (congrArg some (getElem!_pos (encE d[j / 5]!) (j % 5) h4).symm))
      rw [hv] at h2
      have h5 : 0 + j / 5 * 5 + j % 5 = 0 + j := by omega
      have h6 : eo (.slice (some ⟨g', 0, none⟩) l.length cap) = 0 := rfl
      rw [h6, h5] at h2
      exact h2
    · simp [World.frozen?, hb]
  have hC : CmpLays P f #[] encE 5 cf g' 0 d.size w := fun m os dk hs x y => by
    have h := (hcmp (sortWorldK encE 5 w g' 0 m dk os) x y).calls
    refine (callsIn_wide.1 h).mono fun e w' ⟨he, hw⟩ => ⟨he, hw⟩
  have hS := AnyQ.slices_SortFunc L 5 aE zE encE (fun _ => rfl) (fun x v hv => by simp only [encE, List.mem_cons, List.not_mem_nil, or_false] at hv; rcases hv with rfl | rfl | rfl | rfl | rfl <;> rfl) cf hO f #[] g' 0 cap d w eg hC hH hlt (by rw [hds]; show l.length < _; omega)
  rw [hds] at hS
  rw [hv]
  refine ⟨fun w' => en _ w', CallsIn.mono (callsIn_wide.2 hS) ?_⟩
  rintro e w' ⟨rfl, d', m, os, ⟨hsz', _, hperm⟩, hsort, rfl⟩
  have hd's : d'.size = n := by rw [hsz', hds]
  refine ⟨_, rfl, ⟨rfl, rfl, rfl, ?_, fun k hk hne => sortWorldK_block hk (by omega)⟩, fun w'' ha => ⟨rfl, d'.toList, ⟨?_, ?_⟩, ?_⟩⟩
  · unfold sortWorldK grow putRowK putRow mapBlock
    show w.heap.size ≤ ((Sort.ahead w m).heap.modify g' _ ++ os).size
    simp [Sort.ahead]
  · rw [extract_allE hd's, extract_allE hds] at hperm
    simpa [d] using hperm
  · rw [List.pairwise_iff_getElem]
    intro i j hi hj hij
    have hi' : i < d'.size := by simpa using hi
    have hj' : j < d'.size := by simpa using hj
    have := hsort i j (Nat.zero_le _) hij (by rw [← hd's]; exact hj')
    rw [getElem!_pos d' i hi', getElem!_pos d' j hj'] at this
    simpa [ltOf] using this
  · have hown := sortWorldK_own (enc := encE) (sz := 5) (w := w) (off := 0) (m := m) (dk := d') (os := os) hb
    have hb2 := (ha.block g' (Nat.le_refl _) (Nat.lt_succ_self _)).trans hown
    have hl' : d'.toList.length = n := by simp [hd's]
    refine ⟨length_flatMap_enc (enc := encE) (sz := 5) (fun _ => rfl) _, .inr ⟨g', cap, putCells id 0 (flatK encE 5 d') cur, ?_, Nat.zero_le _, hb2, ?_, hcap, ?_, ?_⟩⟩
    · rw [hl']
    · rw [hl']; exact hnc
    · simp [putCells]; exact hcs
    · refine List.ext_getElem? fun k => ?_
      rw [List.getElem?_take, hl']
      by_cases hk : k < n * 5
      · have hkc : k < cur.size := by rw [hcs]; have : n ≤ cap := hnc; omega
        rw [if_pos hk, flatK_flat (enc := encE) (sz := 5) (fun _ => rfl) (by decide) d' (by rw [hd's]; exact hk), Array.getElem?_toList]
        simp only [putCells, Array.getElem?_mapIdx, Array.getElem?_eq_getElem hkc, Option.map_some, Nat.sub_zero, size_flatK, hd's]
        rw [if_pos ⟨Nat.zero_le _, by omega⟩]; rfl
      · rw [if_neg hk, List.getElem?_eq_none (by rw [length_flatMap_enc (enc := encE) (sz := 5) (fun _ => rfl), hl']; omega)]
end Go.Fip
namespace Go.Fip
open Go.Proofs Go.RowKit
theorem e132 {a : Int} {w : World} :
  FnE Tryz.prog 132 [(.int .i64 a)].toArray w (.bool false) := by
 refine fnE_of (args := [(.int .i64 a)]) Tryz.func132 rfl (ent Tryz.func132 (by kernel_rfl) rfl) rfl rfl (fun hH => ?_)
 refine seq (region (oA hH rfl rfl (ops_nil (thn_n (seq (region (oM hH rfl rfl (oM hH rfl rfl ?_))))))))
 refine ops_y hH rfl rfl (yv_neq rfl rfl) ?_
 refine oA hH rfl rfl (ops_nil (thn_n (ret ?_)))
 refine finE (res1 rfl (show RV _ _ _ (.tmp 2) _ from rfl)) ?_
 first | rfl | (show Value.bool _ = _; congr 1; simp)
theorem e106 {a b : Int} {w : World} :
  FnE Tryz.prog 106 [(.int .i64 a), (.int .i64 b)].toArray w (.int .i64 (B.cmpI a b)) := by
 refine fnE_of (args := [(.int .i64 a), (.int .i64 b)]) Tryz.func106 rfl (ent Tryz.func106 (by kernel_rfl) rfl) rfl rfl (fun hH => ?_)
 refine seq (region (oA hH rfl rfl (ops_nil (thn_n (seq (region (oM hH rfl rfl ?_)))))))
 refine op_fnE rfl rfl rfl (e132) ?_
 refine oA hH rfl rfl (ops_nil (thn_n (seq (region (oM hH rfl rfl ?_)))))
 refine op_fnE rfl rfl rfl (e132) ?_
 refine oA hH rfl rfl (ops_nil (thn_n (seq (seq (region (oM hH rfl rfl (ops_nil (thn_n ?_))))))))
 refine cond_f rfl rfl ?_
 refine skip (thn_n (seq (seq (region (oM hH rfl rfl (ops_nil (thn_n ?_)))))))
 refine cond_f rfl rfl ?_
 refine skip (thn_n (seq (seq (region (oM hH rfl rfl (oM hH rfl rfl ?_))))))
 refine ops_y hH rfl rfl (yv_lss rfl rfl) ?_
 refine ops_nil (thn_n ?_)
 by_cases hc1 : a < b
 ·skip
  refine cond_t rfl (dT hc1) ?_
  refine seq (region (oA hH rfl rfl (ops_nil (thn_n (ret (thn_r ?_))))))
  refine finE (res1 rfl (show RV _ _ _ (.tmp 4) _ from rfl)) ?_
  first | exact congrArg (Value.int .i64) (show _ = B.cmpI a b by unfold B.cmpI; (repeat split) <;> omega)
 ·skip
  refine cond_f rfl (dF hc1) ?_
  refine skip (thn_n (seq (seq (region (oM hH rfl rfl (oM hH rfl rfl ?_))))))
  refine ops_y hH rfl rfl (yv_gtr rfl rfl) ?_
  refine ops_nil (thn_n ?_)
  by_cases hc2 : b < a
  ·skip
   refine cond_t rfl (dT hc2) ?_
   refine seq (region (oA hH rfl rfl (ops_nil (thn_n (ret (thn_r ?_))))))
   refine finE (res1 rfl (show RV _ _ _ (.tmp 4) _ from rfl)) ?_
   first | exact congrArg (Value.int .i64) (show _ = B.cmpI a b by unfold B.cmpI; (repeat split) <;> omega)
  ·skip
   refine cond_f rfl (dF hc2) ?_
   refine skip (thn_n (seq (region (oA hH rfl rfl (ops_nil (thn_n (ret ?_)))))))
   refine finE (res1 rfl (show RV _ _ _ (.tmp 4) _ from rfl)) ?_
   first | exact congrArg (Value.int .i64) (show _ = B.cmpI a b by unfold B.cmpI; (repeat split) <;> omega)
theorem e105 {v : Value} {a b : Int} {w : World} (h0 : Rd encI 1 v [a, b] w) :
  FnE Tryz.prog 105 [v].toArray w (.int .i64 (if a = 0 then b else a)) := by
 refine fnE_of (args := [v]) Tryz.func105 rfl (ent Tryz.func105 (by kernel_rfl) rfl) rfl rfl (fun hH => ?_)
 refine seq (region (oA hH rfl rfl (ops_nil (thn_n (seq (region (oA hH rfl rfl (ops_nil (thn_n ?_)))))))))
 refine seq (seq (region (oM hH rfl rfl ?_)))
 refine ops_y hH rfl rfl (yv_len T.sl168 rfl (h0.now hH (n := 0) rfl).is) ?_
 refine oM hH rfl rfl (ops_nil (thn_n (block ?_)))
 refine loop (S := Nat) (fun k => [(8, (.int .i64 (k : Int))), (3, (.int .i64 0)), (6, v), (7, (.int .i64 ([a, b].length : Int)))]) (fun k w1 => w1 = w ∧ k ≤ 2 ∧ (1 ≤ k → a = 0) ∧ (2 ≤ k → b = 0)) (fun k => 2 - k) (0) (uC rfl (uC rfl (uC rfl (uC rfl (Sub.nil _))))) ?_ ?_
 ·exact ⟨rfl, by omega, by omega, by omega⟩
 ·rintro k w1 ⟨hH2, hk, h1, h2⟩
  rw [hH2]
  show Holds _ _ _ _ _ [(8, (.int .i64 (k : Int))), (3, (.int .i64 0)), (6, v), (7, (.int .i64 ([a, b].length : Int)))] _ _
  refine seq (region ?_)
  refine ops_y hH rfl rfl (yv_lss rfl rfl) ?_
  refine ops_nil (thn_n (seq ?_))
  by_cases hc3 : (k : Int) < ([a, b].length : Int)
  ·skip
   refine cond_t rfl (dT hc3) ?_
   refine skip (thn_n (seq (block (seq (region ?_)))))
   refine ops_y hH rfl rfl (yv_index T.sl168 rfl rfl (h0.now hH (n := 0) rfl).is (by simp only [List.length_cons, List.length_nil] at *; omega)) ?_
   refine ops_y hH rfl rfl (yv_load T.one3 rfl (fun _ hw => Rd.at (h0.now hw (n := 0) rfl) (i := (k : Int)) (by simp only [List.length_cons, List.length_nil] at *; omega) (j := 0) rfl)) ?_
   refine oA hH rfl rfl (ops_nil (thn_n (seq (region (oM hH rfl rfl (oM hH rfl rfl ?_))))))
   refine ops_y hH rfl rfl (yv_neq rfl rfl) ?_
   refine ops_nil (thn_n ?_)
   by_cases hc4 : (nth [a, b] (k : Int)) = 0
   ·skip
    refine cond_f rfl (not_decide_n hc4) ?_
    refine skip (blk_n (thn_n (region ?_)))
    refine ops_y hH rfl rfl (yv_add rfl rfl (by omega)) ?_
    refine oM hH rfl rfl (ops_nil ?_)
    refine lp_n (k + 1) (uC rfl (uC rfl (uC rfl (uC rfl (Sub.nil _))))) ?_ ?_
    ·exact ⟨rfl, by simp only [List.length_cons, List.length_nil] at *; omega, (fun h => by have h7 := B.two_at (a := a) (b := b) (k := k); omega), (fun h => by have h7 := B.two_at (a := a) (b := b) (k := k); omega)⟩
    ·(simp only [List.length_cons, List.length_nil] at *; omega)
   ·skip
    refine cond_t rfl (not_decide_t hc4) ?_
    refine seq (region (oM hH rfl rfl (oA hH rfl rfl (ops_nil (thn_n (ret (blk_r (thn_r (lp_r ?_)))))))))
    refine blk_r (thn_r ?_)
    refine finE (res1 rfl (show RV _ _ _ (.tmp 2) _ from rfl)) ?_
    have h7 := B.two_at (a := a) (b := b) (k := k); first | exact congrArg (Value.int .i64) (by simp only [List.length_cons, List.length_nil] at *; split <;> omega)
  ·skip
   refine cond_f rfl (dF hc3) ?_
   refine exit (thn_x (lp_x (blk_here (thn_n (seq (region (oM hH rfl rfl (oA hH rfl rfl (ops_nil ?_)))))))))
   refine thn_n (ret ?_)
   refine finE (res1 rfl (show RV _ _ _ (.tmp 2) _ from rfl)) ?_
   have h7 := B.two_at (a := a) (b := b) (k := k); first | exact congrArg (Value.int .i64) (by simp only [List.length_cons, List.length_nil] at *; split <;> omega)
theorem g65 {a b : En} {w : World} : FnG Tryz.prog 65 [(.agg #[(.int .i64 a.n), (.int .i64 a.d), (.int .i64 a.f), (.int .i64 a.t), (.int .i64 a.a)]), (.agg #[(.int .i64 b.n), (.int .i64 b.d), (.int .i64 b.f), (.int .i64 b.t), (.int .i64 b.a)])].toArray w (.int .i64 (B.cmpE a b)) := by
 refine fnG_of (args := [(.agg #[(.int .i64 a.n), (.int .i64 a.d), (.int .i64 a.f), (.int .i64 a.t), (.int .i64 a.a)]), (.agg #[(.int .i64 b.n), (.int .i64 b.d), (.int .i64 b.f), (.int .i64 b.t), (.int .i64 b.a)])]) Tryz.func65 rfl (ent Tryz.func65 (by kernel_rfl) rfl) rfl rfl (fun hH hG0 => ?_)
 refine seq (region ?_)
 refine op_boxG (us := [(.int .i64 a.n), (.int .i64 a.d), (.int .i64 a.f), (.int .i64 a.t), (.int .i64 a.a)]) hG0 rfl rfl rfl hH (fun b1 w2 hH3 hG1 => ?_)
 refine op_boxG (us := [(.int .i64 b.n), (.int .i64 b.d), (.int .i64 b.f), (.int .i64 b.t), (.int .i64 b.a)]) hG1 rfl rfl rfl hH3 (fun b4 w5 hH6 hG2 => ?_)
 refine oA hH6 rfl rfl (ops_nil (thn_n (seq ?_)))
 refine region_drawG (fun w' => Heap [bx b4 38 [(.int .i64 b.n), (.int .i64 b.d), (.int .i64 b.f), (.int .i64 b.t), (.int .i64 b.a)], bx b1 38 [(.int .i64 a.n), (.int .i64 a.d), (.int .i64 a.f), (.int .i64 a.t), (.int .i64 a.a)], base w] w') hG2 T.mixed (fun w7 hr8 hG3 => ?_)
 have hH9 := hH6.redrawn hr8
 refine any_takes [0, 1, 2, 3, 5, 6, 7, 8] (by kernel_rfl) hH9 _ _ _ (by kernel_rfl) ?_
 refine qs_y rfl rfl (yv_field T.f38_1 rfl) ?_
 refine qs_y rfl rfl (yv_load T.one2 rfl (fun _ hw => Heap.cellw hw (n := 1) rfl rfl)) ?_
 refine qs_y rfl rfl (yv_field T.f38_1 rfl) ?_
 refine qs_y rfl rfl (yv_load T.one2 rfl (fun _ hw => Heap.cellw hw (n := 0) rfl rfl)) ?_
 refine qs_y rfl rfl (yv_field T.f38_0 rfl) ?_
 refine qs_y rfl rfl (yv_load T.one2 rfl (fun _ hw => Heap.cellw hw (n := 1) rfl rfl)) ?_
 refine qs_y rfl rfl (yv_field T.f38_0 rfl) ?_
 refine qs_y rfl rfl (yv_load T.one2 rfl (fun _ hw => Heap.cellw hw (n := 0) rfl rfl)) ?_
 refine qs_nil ?_
 refine any_all [4] (by kernel_rfl) rfl ?_
 refine ⟨⟨_, rfl, ?_⟩, trivial⟩
 refine op_fnE rfl rfl rfl e106 ?_
 refine ops_nil ?_
 refine ⟨hH9, ?_⟩
 refine any_all [9] (by kernel_rfl) rfl ?_
 refine ⟨⟨_, rfl, ?_⟩, trivial⟩
 refine op_fnE rfl rfl rfl e106 ?_
 refine ops_nil ?_
 refine ⟨hH9, ?_⟩
 refine any_all [10] (by kernel_rfl) rfl ?_
 refine ⟨⟨_, rfl, ?_⟩, trivial⟩
 refine op_litG (us := [(0, (.int .i64 (B.cmpI a.d b.d))), (1, (.int .i64 (B.cmpI a.n b.n)))]) hG3 T.el168_encI [(B.cmpI a.d b.d), (B.cmpI a.n b.n)] rfl (by decide) rfl (fun a ha => by simp [ha.ev (show ev _ (.tmp 9) = some _ from rfl), ha.ev (show ev _ (.tmp 14) = some _ from rfl)]) (fun w => by kernel_rfl) hH9 (fun u14 lo16 hi17 w15 hH18 hG4 => ?_)
 refine ops_nil ?_
 refine ⟨(hH18.sub (sC sR)), ?_⟩
 refine any_all [11] (by kernel_rfl) rfl ?_
 refine ⟨⟨_, rfl, ?_⟩, trivial⟩
 refine op_fnE rfl rfl rfl (e105 (Heap.rdw T.el168_encI hH18 (n := 0) rfl)) ?_
 refine ops_nil ?_
 refine ⟨(hH18.sub (sC sR)), ?_⟩
 refine any_takes [12] (by kernel_rfl) (hH18.sub (sC sR)) _ _ _ (by kernel_rfl) ?_
 refine qs_y rfl rfl (yv_assign rfl) (qs_nil ?_)
 refine any_done (by kernel_rfl) ?_
 refine thn_n (ret ?_)
 refine finG hG4 (res1 rfl (show RV _ _ _ (.tmp 4) _ from rfl)) ?_
 rfl
end Go.Fip
namespace Go.Proofs
open Go.Shelf
def Tryz.sortL_ren : Go.Shelf.Ren := ⟨fun | 6 => 84 | 15 => 114 | 14 => 113 | 28 => 143 | 29 => 144 | 20 => 135 | 21 => 136 | 22 => 137 | 23 => 138 | 24 => 139 | 25 => 140 | 26 => 141 | 27 => 142 | 46 => 164 | 47 => 165 | 48 => 166 | 49 => 167 | 50 => 168 | 57 => 184 | n => n, fun | 22 => 22 | 24 => 38 | 25 => 88 | 3 => 3 | 39 => 151 | 0 => 0 | 53 => 68 | 55 => 32 | 4 => 4 | 46 => 172 | 45 => 171 | 50 => 176 | 5 => 5 | 9 => 9 | 66 => 199 | 70 => 202 | 76 => 216 | 77 => 217 | n => n, fun | n => n⟩
theorem Tryz.sortL : Go.Proofs.SlLaysF0.n6 Tryz.prog Tryz.sortL_ren where
 mixed := by kernel_rfl
 f6 := ⟨Tryz.f84.name, by decide, Tryz.func84.trans (congrArg some (by kernel_rfl))⟩
 f14 := ⟨Tryz.f113.name, by decide, Tryz.func113.trans (congrArg some (by kernel_rfl))⟩
 f15 := Tryz.func114.trans (congrArg some (by kernel_rfl))
 f20 := ⟨Tryz.f135.name, by decide, Tryz.func135.trans (congrArg some (by kernel_rfl))⟩
 f21 := ⟨Tryz.f136.name, by decide, Tryz.func136.trans (congrArg some (by kernel_rfl))⟩
 f22 := ⟨Tryz.f137.name, by decide, Tryz.func137.trans (congrArg some (by kernel_rfl))⟩
 f23 := ⟨Tryz.f138.name, by decide, Tryz.func138.trans (congrArg some (by kernel_rfl))⟩
 f24 := ⟨Tryz.f139.name, by decide, Tryz.func139.trans (congrArg some (by kernel_rfl))⟩
 f25 := ⟨Tryz.f140.name, by decide, Tryz.func140.trans (congrArg some (by kernel_rfl))⟩
 f26 := ⟨Tryz.f141.name, by decide, Tryz.func141.trans (congrArg some (by kernel_rfl))⟩
 f27 := ⟨Tryz.f142.name, by decide, Tryz.func142.trans (congrArg some (by kernel_rfl))⟩
 f28 := Tryz.func143.trans (congrArg some (by kernel_rfl))
 f29 := Tryz.func144.trans (congrArg some (by kernel_rfl))
 f46 := ⟨Tryz.f164.name, by decide, Tryz.func164.trans (congrArg some (by kernel_rfl))⟩
 f47 := Tryz.func165.trans (congrArg some (by kernel_rfl))
 f48 := Tryz.func166.trans (congrArg some (by kernel_rfl))
 f49 := ⟨Tryz.f167.name, by decide, Tryz.func167.trans (congrArg some (by kernel_rfl))⟩
 f50 := ⟨Tryz.f168.name, by decide, Tryz.func168.trans (congrArg some (by kernel_rfl))⟩
 f57 := ⟨Tryz.f184.name, by decide, Tryz.func184.trans (congrArg some (by kernel_rfl))⟩
 t0 := Tryz.underlying0
 a0 := Tryz.isAgg0
 z0 := Tryz.sizeOf0
 v0 := Tryz.zeroValue0
 t3 := Tryz.underlying3
 a3 := Tryz.isAgg3
 z3 := Tryz.sizeOf3
 v3 := Tryz.zeroValue3
 t4 := Tryz.underlying4
 a4 := Tryz.isAgg4
 z4 := Tryz.sizeOf4
 v4 := Tryz.zeroValue4
 t5 := Tryz.underlying5
 a5 := Tryz.isAgg5
 z5 := Tryz.sizeOf5
 v5 := Tryz.zeroValue5
 t9 := Tryz.underlying9
 a9 := Tryz.isAgg9
 z9 := Tryz.sizeOf9
 v9 := Tryz.zeroValue9
 t22 := Tryz.underlying22
 a22 := Tryz.isAgg22
 z22 := Tryz.sizeOf22
 v22 := Tryz.zeroValue22
 t25 := Tryz.underlying88
 a25 := Tryz.isAgg88
 z25 := Tryz.sizeOf88
 v25 := Tryz.zeroValue88
 t39 := Tryz.underlying151
 a39 := Tryz.isAgg151
 z39 := Tryz.sizeOf151
 v39 := Tryz.zeroValue151
 t45 := Tryz.underlying171
 a45 := Tryz.isAgg171
 z45 := Tryz.sizeOf171
 v45 := Tryz.zeroValue171
 t46 := Tryz.underlying172
 a46 := Tryz.isAgg172
 z46 := Tryz.sizeOf172
 v46 := Tryz.zeroValue172
 t50 := Tryz.underlying176
 a50 := Tryz.isAgg176
 z50 := Tryz.sizeOf176
 v50 := Tryz.zeroValue176
 t53 := Tryz.underlying68
 a53 := Tryz.isAgg68
 z53 := Tryz.sizeOf68
 v53 := Tryz.zeroValue68
 t55 := Tryz.underlying32
 a55 := Tryz.isAgg32
 z55 := Tryz.sizeOf32
 v55 := Tryz.zeroValue32
 t66 := Tryz.underlying199
 a66 := Tryz.isAgg199
 z66 := Tryz.sizeOf199
 v66 := Tryz.zeroValue199
 t70 := Tryz.underlying202
 a70 := Tryz.isAgg202
 z70 := Tryz.sizeOf202
 v70 := Tryz.zeroValue202
 t76 := Tryz.underlying216
 a76 := Tryz.isAgg216
 z76 := Tryz.sizeOf216
 v76 := Tryz.zeroValue216
 t77 := Tryz.underlying217
 a77 := Tryz.isAgg217
 z77 := Tryz.sizeOf217
 v77 := Tryz.zeroValue217
end Go.Proofs
namespace Go.Fip
open Go.Proofs Go.RowKit
theorem B.swo_cmp : Go.Sort.SWO (Go.Proofs.ltOf B.cmpE) where
 irrefl x := by simp only [Go.Proofs.ltOf, decide_eq_false_iff_not, B.cmpE_neg]; exact B.bef_irrefl
 trans x y z h1 h2 := by
  simp only [Go.Proofs.ltOf, decide_eq_true_eq, B.cmpE_neg] at *
  exact B.bef_trans h1 h2
 ntrans x y z h1 h2 := by
  simp only [Go.Proofs.ltOf, decide_eq_false_iff_not, B.cmpE_neg] at *
  unfold B.bef at *; omega
theorem c84 {v : Value} {l : List En} {g : Nat} {w : World} (hown : Own 38 5 encE v l w) (hg : v.ownBlock = some g) (h1 : 1 ≤ l.length) (hsz : l.length ≤ 1000000) :
  FnM Tryz.prog 84 #[v, .func (.func 65) #[] #[]] w g (fun u w' => u = .tuple #[] ∧ ∃ l', sortCmp B.cmpE l l' ∧ Own 38 5 encE v l' w') :=
 sortE_fnM Go.Proofs.Tryz.sortL Tryz.isAgg38 Tryz.sizeOf38 (f := 65) (E := 38) B.swo_cmp (ent Tryz.func65 (by kernel_rfl) rfl) (ent Tryz.func84 (by kernel_rfl) rfl) (fun W x y => g65) hown hg h1 hsz
end Go.Fip
namespace Go.Fip.B
open Go.Fip
def ins (e : En) : List En → List En
  | [] => [e]
  | x :: l => if bef e x then e :: x :: l else x :: ins e l
def isN (n : Int) (y : En) : Bool := decide (y.n = n)
def fnd (l : List En) (n : Int) : En := if has (isN n) l then nth l (idx (isN n) l) else ⟨0, 0, 0, 0, 0⟩
def news (a l : List En) : List En := l.filter fun x => !has (isN x.n) a
def clash (a b : List En) : Bool := b.any fun x => a.any fun y => decide (y.n = x.n) && !decide (y = x)
def joinTo (a b : List En) (i : Nat) : List En := (news a (b.take i)).foldl (fun l e => ins e l) a
def joinL (a b : List En) : List En := (news a b).foldl (fun l e => ins e l) a
def joinR (a b : List En) : List En × Int :=
  if ¬ ck a = 0 then ([], ck a) else if ¬ ck b = 0 then ([], ck b) else if clash a b = true then ([], 15) else if 24 < a.length + (news a b).length then ([], 6) else (joinL a b, 0)
theorem joinR_a {a b : List En} (h : ¬ ck a = 0) : joinR a b = ([], ck a) := if_pos h
theorem joinR_b {a b : List En} (h : ck a = 0) (h2 : ¬ ck b = 0) : joinR a b = ([], ck b) := (if_neg (fun c => c h)).trans (if_pos h2)
theorem joinR_c {a b : List En} (h : ck a = 0) (h2 : ck b = 0) (h3 : clash a b = true) : joinR a b = ([], 15) := (if_neg (fun c => c h)).trans ((if_neg (fun c => c h2)).trans (if_pos h3))
theorem joinR_m {a b : List En} (h : ck a = 0) (h2 : ck b = 0) (h3 : clash a b = false) (h4 : 24 < a.length + (news a b).length) : joinR a b = ([], 6) :=
  (if_neg (fun c => c h)).trans ((if_neg (fun c => c h2)).trans ((if_neg (by rw [h3]; decide)).trans (if_pos h4)))
theorem joinR_ok {a b : List En} (h : ck a = 0) (h2 : ck b = 0) (h3 : clash a b = false) (h4 : ¬ 24 < a.length + (news a b).length) : joinR a b = (joinL a b, 0) :=
  (if_neg (fun c => c h)).trans ((if_neg (fun c => c h2)).trans ((if_neg (by rw [h3]; decide)).trans (if_neg h4)))
theorem ins_perm {e : En} : ∀ {l : List En}, (ins e l).Perm (e :: l)
  | [] => List.Perm.refl _
  | x :: l => by
    unfold ins
    split
    · exact List.Perm.refl _
    · exact (List.Perm.cons x ins_perm).trans (List.Perm.swap e x l)
theorem ins_eq {e : En} : ∀ {l : List En} {k : Nat}, k ≤ l.length → (∀ i : Nat, i < k → ¬ bef e (nth l (i : Int))) → (k < l.length → bef e (nth l (k : Int))) → ins e l = l.take k ++ e :: l.drop k
  | [], k, h, _, _ => by
    have : k = 0 := by simpa using h
    subst this; rfl
  | x :: l, 0, _, _, h => by
    have h1 : bef e x := h (by simp)
    unfold ins
    rw [if_pos h1]; rfl
  | x :: l, k + 1, hk, h0, h => by
    have h1 : ¬ bef e x := h0 0 (by omega)
    have e1 : ∀ i : Nat, nth (x :: l) ((i + 1 : Nat) : Int) = nth l (i : Int) := fun i => by unfold nth; simp
    unfold ins
    rw [if_neg h1, ins_eq (l := l) (k := k) (by simpa using hk) (fun i hi => by have := h0 (i + 1) (by omega); rwa [e1] at this) (fun hl => by have := h (by simpa using hl); rwa [e1] at this)]
    rfl
theorem ins_mem {e x : En} {l : List En} : x ∈ ins e l ↔ x = e ∨ x ∈ l := by rw [ins_perm.mem_iff, List.mem_cons]
theorem ins_srt {e : En} : ∀ {l : List En}, l.Pairwise bef → (∀ x ∈ l, ¬ x.n = e.n) → (ins e l).Pairwise bef
  | [], _, _ => by simp [ins]
  | x :: l, h, hn => by
    obtain ⟨h1, h2⟩ := List.pairwise_cons.1 h
    unfold ins
    split
    · rename_i hb
      refine List.pairwise_cons.2 ⟨fun y hy => ?_, h⟩
      rcases List.mem_cons.1 hy with rfl | hy
      · exact hb
      · exact bef_trans hb (h1 y hy)
    · rename_i hb
      refine List.pairwise_cons.2 ⟨fun y hy => ?_, ins_srt h2 (fun y hy => hn y (List.mem_cons_of_mem _ hy))⟩
      rcases ins_mem.1 hy with rfl | hy
      · exact bef_total (fun c => hn x (List.mem_cons_self ..) c.symm) hb
      · exact h1 y hy
theorem nth_mem {α : Type} [Inhabited α] {l : List α} {i : Nat} (h : i < l.length) : nth l (i : Int) ∈ l := by rw [nth_nat h]; exact List.getElem_mem h
theorem has_isN {l : List En} {n : Int} : has (isN n) l = true ↔ ∃ y ∈ l, y.n = n := by
  rw [has_iff]
  constructor
  · rintro ⟨i, hi, h⟩
    exact ⟨_, nth_mem hi, of_decide_eq_true h⟩
  · rintro ⟨y, hy, h⟩
    obtain ⟨i, hi, rfl⟩ := List.getElem_of_mem hy
    exact ⟨i, hi, by rw [nth_nat hi]; exact dT h⟩
theorem fnd_mem {l : List En} {n : Int} (h : has (isN n) l = true) : ∃ i : Nat, i < l.length ∧ fnd l n = nth l (i : Int) ∧ (nth l (i : Int)).n = n := by
  unfold fnd
  rw [if_pos h]
  rcases idx_cases (isN n) l with ⟨h1, h2⟩ | ⟨k, hk, h1, h2, _⟩
  · rw [has_not.2 h2] at h; cases h
  · exact ⟨k, hk, by rw [h1], of_decide_eq_true h2⟩
theorem fnd_hit {l : List En} {n : Int} {k : Nat} (hk : k < l.length) (h : ∀ i, i < k → isN n (nth l (i : Int)) = false) (hp : isN n (nth l (k : Int)) = true) : fnd l n = nth l (k : Int) ∧ has (isN n) l = true := by
  have h1 : has (isN n) l = true := has_iff.2 ⟨k, hk, hp⟩
  refine ⟨?_, h1⟩
  unfold fnd
  rw [if_pos h1, idx_hit hk h hp]
theorem fnd_miss {l : List En} {n : Int} (h : ∀ i, i < l.length → isN n (nth l (i : Int)) = false) : fnd l n = ⟨0, 0, 0, 0, 0⟩ ∧ has (isN n) l = false := by
  have h1 : has (isN n) l = false := has_not.2 h
  refine ⟨?_, h1⟩
  unfold fnd
  rw [h1]; rfl
theorem clash_iff {a b : List En} : clash a b = true ↔ ∃ i : Nat, i < b.length ∧ ∃ j : Nat, j < a.length ∧ (nth a (j : Int)).n = (nth b (i : Int)).n ∧ ¬ nth a (j : Int) = nth b (i : Int) := by
  unfold clash
  simp only [List.any_eq_true, Bool.and_eq_true, decide_eq_true_eq, Bool.not_eq_true', decide_eq_false_iff_not]
  constructor
  · rintro ⟨x, hx, y, hy, h1, h2⟩
    obtain ⟨i, hi, rfl⟩ := List.getElem_of_mem hx
    obtain ⟨j, hj, rfl⟩ := List.getElem_of_mem hy
    exact ⟨i, hi, j, hj, by rw [nth_nat hi, nth_nat hj]; exact ⟨h1, h2⟩⟩
  · rintro ⟨i, hi, j, hj, h1, h2⟩
    exact ⟨_, nth_mem hi, _, nth_mem hj, h1, h2⟩
theorem clash_none {a b : List En} (h : ∀ i : Nat, i < b.length → ∀ j : Nat, j < a.length → (nth a (j : Int)).n = (nth b (i : Int)).n → nth a (j : Int) = nth b (i : Int)) : clash a b = false := by
  rw [Bool.eq_false_iff]
  intro c
  obtain ⟨i, hi, j, hj, h1, h2⟩ := clash_iff.1 c
  exact h2 (h i hi j hj h1)
theorem clash_hit {a b : List En} {i j : Nat} (hi : i < b.length) (hj : j < a.length) (h : (nth a (j : Int)).n = (nth b (i : Int)).n) (h2 : ¬ nth a (j : Int) = nth b (i : Int)) : clash a b = true := clash_iff.2 ⟨i, hi, j, hj, h, h2⟩
theorem clash_fnd {a b : List En} {i : Nat} (hi : i < b.length) (h : has (isN (nth b (i : Int)).n) a = true) (h2 : ¬ fnd a (nth b (i : Int)).n = nth b (i : Int)) : clash a b = true := by
  obtain ⟨j, hj, e, h3⟩ := fnd_mem h
  rw [e] at h2
  exact clash_hit hi hj h3 h2
theorem clash_fnd_none {a b : List En} (hd : NoDup a) (h : ∀ i : Nat, i < b.length → has (isN (nth b (i : Int)).n) a = true → fnd a (nth b (i : Int)).n = nth b (i : Int)) : clash a b = false := clash_none fun i hi j hj hn => by
  have h1 : has (isN (nth b (i : Int)).n) a = true := has_iff.2 ⟨j, hj, dT hn⟩
  have h2 := h i hi h1
  obtain ⟨k, hk, e, h3⟩ := fnd_mem h1
  have : k = j := by
    rcases Nat.lt_trichotomy k j with h4 | h4 | h4
    · exact absurd (h3.trans hn.symm) (hd j hj k h4)
    · exact h4
    · exact absurd (hn.trans h3.symm) (hd k hk j h4)
  subst this
  rw [← e]; exact h2
theorem news_take {a b : List En} {i : Nat} (hi : i < b.length) : news a (b.take (i + 1)) = news a (b.take i) ++ (if has (isN (nth b (i : Int)).n) a then [] else [nth b (i : Int)]) := by
  unfold news
  rw [List.take_succ_eq_append_getElem hi, List.filter_append, nth_nat hi]
  cases h : has (isN (b[i]).n) a <;> simp [List.filter, h]
theorem news_t {a b : List En} {i : Nat} (hi : i < b.length) (h : has (isN (nth b (i : Int)).n) a = true) : news a (b.take (i + 1)) = news a (b.take i) := by rw [news_take hi, if_pos h, List.append_nil]
theorem news_f {a b : List En} {i : Nat} (hi : i < b.length) (h : has (isN (nth b (i : Int)).n) a = false) : news a (b.take (i + 1)) = news a (b.take i) ++ [nth b (i : Int)] := by rw [news_take hi, if_neg (by rw [h]; decide)]
theorem news_all {a b : List En} {i : Nat} (h : i = b.length) : news a (b.take i) = news a b := by rw [h, List.take_length]
theorem news_len {a l : List En} : (news a l).length ≤ l.length := List.length_filter_le ..
theorem joinTo_t {a b : List En} {i : Nat} (hi : i < b.length) (h : has (isN (nth b (i : Int)).n) a = true) : joinTo a b (i + 1) = joinTo a b i := by unfold joinTo; rw [news_t hi h]
theorem joinTo_f {a b : List En} {i : Nat} (hi : i < b.length) (h : has (isN (nth b (i : Int)).n) a = false) : joinTo a b (i + 1) = ins (nth b (i : Int)) (joinTo a b i) := by unfold joinTo; rw [news_f hi h, List.foldl_append]; rfl
theorem joinTo_all {a b : List En} {i : Nat} (h : i = b.length) : joinTo a b i = joinL a b := by unfold joinTo joinL; rw [news_all h]
theorem foldl_perm {a : List En} : ∀ {l : List En}, (l.foldl (fun l e => ins e l) a).Perm (a ++ l) := by
  intro l
  induction l generalizing a with
  | nil => simp
  | cons x l ih =>
    refine (ih (a := ins x a)).trans ?_
    refine (List.Perm.append_right l ins_perm).trans ?_
    exact List.perm_middle.symm
theorem joinTo_perm {a b : List En} {i : Nat} : (joinTo a b i).Perm (a ++ news a (b.take i)) := foldl_perm
theorem joinL_perm {a b : List En} : (joinL a b).Perm (a ++ news a b) := foldl_perm
theorem joinTo_len {a b : List En} {i : Nat} : (joinTo a b i).length = a.length + (news a (b.take i)).length := by rw [joinTo_perm.length_eq, List.length_append]
theorem joinL_len {a b : List En} : (joinL a b).length = a.length + (news a b).length := by rw [joinL_perm.length_eq, List.length_append]
theorem ord_srt {l : List En} (h : Ord l) : l.Pairwise bef := by
  rw [List.pairwise_iff_getElem]
  intro i j hi hj hij
  have := ord_all h j i hij hj
  rwa [nth_nat hi, nth_nat hj] at this
theorem news_fresh {a l : List En} {x : En} (h : x ∈ news a l) : x ∈ l ∧ ∀ y ∈ a, ¬ y.n = x.n := by
  unfold news at h
  rw [List.mem_filter] at h
  refine ⟨h.1, fun y hy hn => ?_⟩
  have h1 := has_isN.2 ⟨y, hy, hn⟩
  rw [h1] at h
  exact absurd h.2 (by decide)
theorem joinTo_srt {a b : List En} (ha : Ord a) (hb : NoDup b) : ∀ {i : Nat}, i ≤ b.length → (joinTo a b i).Pairwise bef
  | 0, _ => ord_srt ha
  | i + 1, h => by
    have ih := joinTo_srt ha hb (i := i) (by omega)
    cases hh : has (isN (nth b (i : Int)).n) a with
    | true => rw [joinTo_t (by omega) hh]; exact ih
    | false =>
      rw [joinTo_f (by omega) hh]
      refine ins_srt ih fun x hx hn => ?_
      rw [joinTo_perm.mem_iff, List.mem_append] at hx
      rcases hx with hx | hx
      · have := has_isN.2 ⟨x, hx, hn⟩
        rw [this] at hh; cases hh
      · have h1 := (news_fresh hx).1
        obtain ⟨k, hk, rfl⟩ := List.getElem_of_mem h1
        rw [List.length_take] at hk
        rw [List.getElem_take] at hn
        exact hb i (by omega) k (by omega) (by rw [nth_nat (by omega)]; exact hn)
theorem joinL_srt {a b : List En} (ha : Ord a) (hb : NoDup b) : (joinL a b).Pairwise bef := by
  rw [← joinTo_all rfl]; exact joinTo_srt ha hb (Nat.le_refl _)
theorem bef_n {a b : En} (h : ¬ bef a b) (h2 : ¬ bef b a) : a.n = b.n := Decidable.byContradiction fun c => h2 (bef_total c h)
theorem sorted_join {a b l : List En} (ha : Ord a) (hb : NoDup b) (h : sortCmp cmpE (a ++ news a b) l) : l = joinL a b := by
  have hp : l.Perm (joinL a b) := h.1.trans joinL_perm.symm
  have hs := joinL_srt ha hb
  have hl : l.Pairwise fun x y => ¬ bef y x := h.2.imp fun h1 h2 => h1 (cmpE_neg.2 h2)
  refine hp.eq_of_pairwise (fun x y hx hy h1 h2 => ?_) hl (hs.imp fun h1 => bef_asymm h1)
  have hn := bef_n h2 h1
  obtain ⟨i, hi, rfl⟩ := List.getElem_of_mem (hp.mem_iff.1 hx)
  obtain ⟨j, hj, rfl⟩ := List.getElem_of_mem hy
  rw [List.pairwise_iff_getElem] at hs
  rcases Nat.lt_trichotomy i j with h4 | h4 | h4
  · exact absurd (hs i j hi hj h4) h2
  · subst h4; rfl
  · exact absurd (hs j i hj hi h4) h1
theorem join_nil {a b : List En} {i : Nat} (h : a.length + (news a b).length = 0) (h2 : (a ++ news a (b.take i)).length = 0) : a ++ news a (b.take i) = joinL a b := by
  rw [List.eq_nil_of_length_eq_zero h2, List.eq_nil_of_length_eq_zero (joinL_len.trans h)]
def slid (l : List En) (e : En) (k : Nat) : List En := l.take k ++ e :: l.drop k
theorem slid_len {l : List En} {e : En} {k : Nat} : (slid l e k).length = l.length + 1 := by unfold slid; simp; omega
theorem slid_end {l : List En} {e : En} {k : Nat} (h : k = l.length) : slid l e k = l ++ [e] := by subst h; unfold slid; simp
theorem slid_at {l : List En} {e : En} {k : Nat} (h : k ≤ l.length) : nth (slid l e k) (k : Int) = e := by
  rw [nth_nat (by rw [slid_len]; omega)]
  unfold slid
  rw [List.getElem_append_right (by rw [List.length_take]; omega)]
  simp [Nat.min_eq_left h]
theorem slid_pre {l : List En} {e : En} {k : Nat} (h : k ≤ l.length) (h1 : 1 ≤ k) : nth (slid l e k) ((k : Int) - 1) = nth l ((k : Int) - 1) := by
  rw [show (k : Int) - 1 = ((k - 1 : Nat) : Int) by omega, nth_nat (by rw [slid_len]; omega), nth_nat (by omega)]
  unfold slid
  rw [List.getElem_append_left (by rw [List.length_take]; omega), List.getElem_take]
theorem slid_ins {l : List En} {e : En} {k : Nat} (hl : l.Pairwise bef) (hk : k ≤ l.length) (hafter : ∀ i : Nat, k ≤ i → i < l.length → bef e (nth l (i : Int))) (hstop : k = 0 ∨ ¬ bef e (nth l ((k : Int) - 1))) : slid l e k = ins e l := by
  refine (ins_eq hk (fun i hi hb => ?_) (fun h => hafter k (Nat.le_refl _) h)).symm
  rcases hstop with h0 | h0
  · omega
  · by_cases e1 : i = k - 1
    · subst e1
      rw [show ((k - 1 : Nat) : Int) = (k : Int) - 1 by omega] at hb
      exact h0 hb
    · refine h0 (bef_trans hb ?_)
      rw [show (k : Int) - 1 = ((k - 1 : Nat) : Int) by omega, nth_nat (by omega), nth_nat (by omega)]
      exact List.pairwise_iff_getElem.1 hl i (k - 1) (by omega) (by omega) (by omega)
theorem slid_swap {l : List En} {e : En} {k : Nat} (h : k ≤ l.length) (h1 : 1 ≤ k) : ((slid l e k).set k (nth (slid l e k) ((k : Int) - 1))).set (k - 1) (nth (slid l e k) (k : Int)) = slid l e (k - 1) := by
  rw [slid_at h, slid_pre h h1, show (k : Int) - 1 = ((k - 1 : Nat) : Int) by omega, nth_nat (by omega)]
  refine List.ext_getElem? fun j => ?_
  have ht : (l.take k).length = k := by rw [List.length_take]; omega
  have ht2 : (l.take (k - 1)).length = k - 1 := by rw [List.length_take]; omega
  have hs : (slid l e k).length = l.length + 1 := slid_len
  unfold slid at hs ⊢
  rw [List.getElem?_set, List.getElem?_set, List.length_set, hs]
  by_cases h2 : k - 1 = j
  · subst h2
    rw [if_pos rfl, if_pos (by omega), List.getElem?_append_right (by omega), ht2]; simp
  · rw [if_neg h2]
    by_cases h3 : k = j
    · subst h3
      rw [if_pos rfl, if_pos (by omega), List.getElem?_append_right (by omega), ht2, show k - (k - 1) = 0 + 1 by omega, List.getElem?_cons_succ, List.getElem?_drop, List.getElem?_eq_getElem (by omega)]
      simp
    · rw [if_neg h3]
      by_cases h4 : j < k - 1
      · rw [List.getElem?_append_left (by omega), List.getElem?_append_left (by omega), List.getElem?_take, List.getElem?_take, if_pos (by omega), if_pos h4]
      · rw [List.getElem?_append_right (by omega), List.getElem?_append_right (by omega), ht, ht2, show j - k = (j - k - 1) + 1 by omega, show j - (k - 1) = (j - k - 1) + 1 + 1 by omega, List.getElem?_cons_succ, List.getElem?_cons_succ, List.getElem?_drop, List.getElem?_drop]
        congr 1; omega
end Go.Fip.B
namespace Go.Fip
open Go.Proofs Go.RowKit
theorem c81 {v : Value} {l : List En} {w : World} (h0 : Rd encE 5 v l w) (hn : l.length ≤ 1000000)  :
  Fn Tryz.prog 81 [v].toArray w (fun u w => Own 38 5 encE u l w) := by
 refine fn_of' (args := [v]) Tryz.func81 rfl (ent Tryz.func81 (by kernel_rfl) rfl) rfl rfl (fun hH => ?_)
 refine seq (region (oA hH rfl rfl (ops_nil (thn_n (seq (seq (region (oM hH rfl rfl ?_))))))))
 refine ops_y hH rfl rfl (yv_eqNil T.sl22.1 rfl (h0.now hH (n := 0) rfl).is) ?_
 refine ops_nil (thn_n ?_)
 by_cases hc1 : isNilS v = true
 ·skip
  have hl : l = [] := List.eq_nil_of_length_eq_zero (isNilS_len h0.is ‹_›)
  refine cond_t rfl hc1 ?_
  refine seq (region (oA hH rfl rfl (ops_nil (thn_n (ret (thn_r ?_))))))
  refine fin hH (fun w' hf => (res1 rfl (show RV _ _ _ (.tmp 2) _ from rfl))) (fun w' hf => ?_)
  first | exact (by rw [hl]; exact own_nil) | exact (by have h := Heap.own hf (n := 0) rfl; simpa using h)
 ·skip
  refine cond_f rfl (Bool.eq_false_iff.2 hc1) ?_
  refine skip (thn_n (seq (region ?_)))
  refine op_lit (us := []) T.el22_encE ([] : List En) rfl (by decide) rfl (fun a ha => by simp) (fun w => by kernel_rfl) hH (fun u2 lo4 hi5 w3 hH6 => ?_)
  refine oM hH6 rfl rfl ?_
  refine op_append (n := 0) T.el22_encE rfl rfl rfl hH6 rfl (h0.now hH6 (n := 1) rfl) (by first | omega | (simp only [List.length_append, List.length_cons, List.length_nil]; omega)) (fun u7 lo9 hi10 w8 hH11 => ?_)
  refine oA hH11 rfl rfl (ops_nil (thn_n (ret ?_)))
  refine fin (hH11.front (n := 1) rfl) (fun w' hf => (res1 rfl (show RV _ _ _ (.tmp 2) _ from rfl))) (fun w' hf => ?_)
  first | exact (by rw [hl]; exact own_nil) | exact (by have h := Heap.own hf (n := 0) rfl; simpa using h)
theorem c83 {x e : En} {b1 : Nat} {w : World} (k1 : Bx b1 38 [.int .i64 e.n, .int .i64 e.d, .int .i64 e.f, .int .i64 e.t, .int .i64 e.a] w)  :
  Fn Tryz.prog 83 [(.agg #[(.int .i64 x.n), (.int .i64 x.d), (.int .i64 x.f), (.int .i64 x.t), (.int .i64 x.a)]), (.pointer (some ⟨b1, 0, none⟩))].toArray w (fun u _ => u = .bool (B.isN e.n x)) := by
 refine fn_of' (args := [(.agg #[(.int .i64 x.n), (.int .i64 x.d), (.int .i64 x.f), (.int .i64 x.t), (.int .i64 x.a)]), (.pointer (some ⟨b1, 0, none⟩))]) Tryz.func83 rfl (ent Tryz.func83 (by kernel_rfl) rfl) rfl rfl (fun hH => ?_)
 refine seq (region ?_)
 refine op_box (us := [(.int .i64 x.n), (.int .i64 x.d), (.int .i64 x.f), (.int .i64 x.t), (.int .i64 x.a)]) rfl rfl rfl hH (fun b1 w2 hH3 => ?_)
 refine oA hH3 rfl rfl (ops_nil (thn_n (seq (region ?_))))
 refine ops_y hH3 rfl rfl (yv_field T.f38_0 rfl) ?_
 refine ops_y hH3 rfl rfl (yv_load T.one2 rfl (fun _ hw => Heap.cellw hw (n := 0) rfl rfl)) ?_
 refine ops_y hH3 rfl rfl (yv_field T.f38_0 rfl) ?_
 refine ops_y hH3 rfl rfl (yv_load T.one2 rfl (fun _ hw => bx_cell (k1.now hw (n := 1) rfl) rfl)) ?_
 refine ops_y hH3 rfl rfl (yv_eql rfl rfl) ?_
 refine oA hH3 rfl rfl (ops_nil (thn_n (ret ?_)))
 have hH4 := (hH3.sub (sC sR))
 refine fin hH4 (fun w' hf => (res1 rfl (show RV _ _ _ (.tmp 3) _ from rfl))) (fun w' hf => ?_)
 rfl
theorem c82 {v : Value} {l : List En} {e : En} {bq : Nat} {w : World} (h0 : Rd encE 5 v l w) (kq : Bx bq 38 [.int .i64 e.n, .int .i64 e.d, .int .i64 e.f, .int .i64 e.t, .int .i64 e.a] w) (hn : l.length ≤ 1000000)  :
  Fn Tryz.prog 82 [v, (.func (.func 83) #[] #[(.pointer (some ⟨bq, 0, none⟩))])].toArray w (fun u _ => u = .tuple #[(.agg #[(.int .i64 ((B.fnd l e.n).n)), (.int .i64 ((B.fnd l e.n).d)), (.int .i64 ((B.fnd l e.n).f)), (.int .i64 ((B.fnd l e.n).t)), (.int .i64 ((B.fnd l e.n).a))]), .bool (has (B.isN e.n) l)]) := by
 refine fn_of' (args := [v, (.func (.func 83) #[] #[(.pointer (some ⟨bq, 0, none⟩))])]) Tryz.func82 rfl (ent Tryz.func82 (by kernel_rfl) rfl) rfl rfl (fun hH => ?_)
 refine seq (region ?_)
 refine op_alloc (z := (.agg #[(.int .i64 0), (.int .i64 0), (.int .i64 0), (.int .i64 0), (.int .i64 0)])) (us := [(.int .i64 0), (.int .i64 0), (.int .i64 0), (.int .i64 0), (.int .i64 0)]) (fun _ => by kernel_rfl) rfl rfl hH (fun b1 w2 hH3 => ?_)
 refine oA hH3 rfl rfl (ops_nil (thn_n (seq (seq (region (oM hH3 rfl rfl ?_))))))
 refine ops_y hH3 rfl rfl (yv_len T.sl22 rfl (h0.now hH3 (n := 1) rfl).is) ?_
 refine oM hH3 rfl rfl (ops_nil (thn_n (block ?_)))
 refine loop (S := Nat) (fun k => [(11, (.int .i64 (k : Int))), (1, (.func (.func 83) #[] #[(.pointer (some ⟨bq, 0, none⟩))])), (4, (.pointer (some ⟨b1, 0, none⟩))), (9, v), (10, (.int .i64 (l.length : Int)))]) (fun k w1 => Heap [bx b1 38 [(.int .i64 0), (.int .i64 0), (.int .i64 0), (.int .i64 0), (.int .i64 0)], base w] w1 ∧ k ≤ l.length ∧ ∀ i, i < k → B.isN e.n (nth l (i : Int)) = false) (fun k => l.length - k) (0) (uC rfl (uC rfl (uC rfl (uC rfl (uC rfl (Sub.nil _)))))) ?_ ?_
 ·exact ⟨hH3, by omega, B.all_zero⟩
 ·rintro k w4 ⟨hH5, hk, hall⟩
  show Holds _ _ _ _ _ [(11, (.int .i64 (k : Int))), (1, (.func (.func 83) #[] #[(.pointer (some ⟨bq, 0, none⟩))])), (4, (.pointer (some ⟨b1, 0, none⟩))), (9, v), (10, (.int .i64 (l.length : Int)))] _ _
  refine seq (region ?_)
  refine ops_y hH5 rfl rfl (yv_lss rfl rfl) ?_
  refine ops_nil (thn_n (seq ?_))
  by_cases hc6 : (k : Int) < (l.length : Int)
  ·skip
   refine cond_t rfl (dT hc6) ?_
   refine skip (thn_n (seq (block (seq (region ?_)))))
   refine ops_y hH5 rfl rfl (yv_index T.sl22 rfl rfl (h0.now hH5 (n := 1) rfl).is (by omega)) ?_
   refine ops_y hH5 rfl rfl (yv_loadA (cs := [(.int .i64 ((nth l (k : Int)).n)), (.int .i64 ((nth l (k : Int)).d)), (.int .i64 ((nth l (k : Int)).f)), (.int .i64 ((nth l (k : Int)).t)), (.int .i64 ((nth l (k : Int)).a))]) T.agg38 rfl rfl (fun _ hw => Rd.atA (h0.now hw (n := 1) rfl) (i := (k : Int)) (by omega))) ?_
   refine op_alloc (z := (.agg #[(.int .i64 0), (.int .i64 0), (.int .i64 0), (.int .i64 0), (.int .i64 0)])) (us := [(.int .i64 0), (.int .i64 0), (.int .i64 0), (.int .i64 0), (.int .i64 0)]) (fun _ => by kernel_rfl) rfl rfl hH5 (fun b7 w8 hH9 => ?_)
   refine op_store (n := 0) (j := 0) (us := [(.int .i64 ((nth l (k : Int)).n)), (.int .i64 ((nth l (k : Int)).d)), (.int .i64 ((nth l (k : Int)).f)), (.int .i64 ((nth l (k : Int)).t)), (.int .i64 ((nth l (k : Int)).a))]) rfl rfl hH9 rfl T.sz38 rfl rfl rfl (by rfl) (fun w10 hH11 => ?_)
   refine ops_nil (thn_n (seq (region (oM hH11 rfl rfl ?_))))
   refine ops_y hH11 rfl rfl (yv_loadA (cs := [(.int .i64 ((nth l (k : Int)).n)), (.int .i64 ((nth l (k : Int)).d)), (.int .i64 ((nth l (k : Int)).f)), (.int .i64 ((nth l (k : Int)).t)), (.int .i64 ((nth l (k : Int)).a))]) T.agg38 rfl rfl (fun _ hw => Heap.cellsw hw (n := 0) rfl (k := 0) rfl)) ?_
   refine op_fnV rfl rfl rfl hH11 (c83 (kq.now hH11 (n := 2) rfl)) (fun w12 hH13 => ?_)
   refine ops_nil (thn_n ?_)
   by_cases hc14 : B.isN e.n (nth l (k : Int)) = true
   ·skip
    have hp : B.isN e.n (nth l (k : Int)) = true := hc14
    have hfd := B.fnd_hit (by omega) hall hp
    refine cond_t rfl hc14 ?_
    refine seq (region ?_)
    refine ops_y hH13 rfl rfl (yv_loadA (cs := [(.int .i64 ((nth l (k : Int)).n)), (.int .i64 ((nth l (k : Int)).d)), (.int .i64 ((nth l (k : Int)).f)), (.int .i64 ((nth l (k : Int)).t)), (.int .i64 ((nth l (k : Int)).a))]) T.agg38 rfl rfl (fun _ hw => Heap.cellsw hw (n := 0) rfl (k := 0) rfl)) ?_
    refine op_store (n := 1) (j := 0) (us := [(.int .i64 ((nth l (k : Int)).n)), (.int .i64 ((nth l (k : Int)).d)), (.int .i64 ((nth l (k : Int)).f)), (.int .i64 ((nth l (k : Int)).t)), (.int .i64 ((nth l (k : Int)).a))]) rfl rfl hH13 rfl T.sz38 rfl rfl rfl (by rfl) (fun w15 hH16 => ?_)
    refine oA hH16 rfl rfl (ops_nil (thn_n (ret (blk_r (thn_r (lp_r (blk_r (thn_r ?_))))))))
    have hH17 := (hH16.sub (sC sR))
    refine fin (hH17.front (n := 1) rfl) (fun w' hf => (res2 rfl (rvA (cs := [(.int .i64 ((nth l (k : Int)).n)), (.int .i64 ((nth l (k : Int)).d)), (.int .i64 ((nth l (k : Int)).f)), (.int .i64 ((nth l (k : Int)).t)), (.int .i64 ((nth l (k : Int)).a))]) rfl T.agg38 rfl (bx_cells (Heap.bxw hf (n := 1) rfl) (k := 0) rfl)) (show RV _ _ _ (.tmp 5) _ from rfl))) (fun w' hf => ?_)
    rw [hfd.1, hfd.2]
   ·skip
    have hp : B.isN e.n (nth l (k : Int)) = false := (Bool.eq_false_iff.2 hc14)
    refine cond_f rfl (Bool.eq_false_iff.2 hc14) ?_
    refine skip (blk_n (thn_n (region ?_)))
    refine ops_y hH13 rfl rfl (yv_add rfl rfl (by omega)) ?_
    refine oM hH13 rfl rfl (ops_nil ?_)
    have hH18 := (hH13.sub (sC sR))
    refine lp_n (k + 1) (uC rfl (uC rfl (uC rfl (uC rfl (uC rfl (Sub.nil _)))))) ?_ ?_
    ·exact ⟨hH18, by omega, B.all_snoc hall hp⟩
    ·first | (dsimp only; omega) | (show _ < _; omega)
  ·skip
   have hfd := B.fnd_miss (l := l) (n := e.n) (fun i hi => hall i (by omega))
   refine cond_f rfl (dF hc6) ?_
   refine exit (thn_x (lp_x (blk_here (thn_n (seq (region ?_))))))
   refine op_alloc (z := (.agg #[(.int .i64 0), (.int .i64 0), (.int .i64 0), (.int .i64 0), (.int .i64 0)])) (us := [(.int .i64 0), (.int .i64 0), (.int .i64 0), (.int .i64 0), (.int .i64 0)]) (fun _ => by kernel_rfl) rfl rfl hH5 (fun b19 w20 hH21 => ?_)
   refine ops_nil (thn_n (seq (region ?_)))
   refine ops_y hH21 rfl rfl (yv_loadA (cs := [(.int .i64 0), (.int .i64 0), (.int .i64 0), (.int .i64 0), (.int .i64 0)]) T.agg38 rfl rfl (fun _ hw => Heap.cellsw hw (n := 0) rfl (k := 0) rfl)) ?_
   refine op_store (n := 1) (j := 0) (us := [(.int .i64 0), (.int .i64 0), (.int .i64 0), (.int .i64 0), (.int .i64 0)]) rfl rfl hH21 rfl T.sz38 rfl rfl rfl (by rfl) (fun w22 hH23 => ?_)
   refine oA hH23 rfl rfl (ops_nil (thn_n (ret ?_)))
   have hH24 := (hH23.sub (sC sR))
   refine fin (hH24.front (n := 1) rfl) (fun w' hf => (res2 rfl (rvA (cs := [(.int .i64 0), (.int .i64 0), (.int .i64 0), (.int .i64 0), (.int .i64 0)]) rfl T.agg38 rfl (bx_cells (Heap.bxw hf (n := 1) rfl) (k := 0) rfl)) (show RV _ _ _ (.tmp 5) _ from rfl))) (fun w' hf => ?_)
   rw [hfd.1, hfd.2]
end Go.Fip
namespace Go.Fip
open Go.Proofs Go.RowKit
theorem Heap.reOw {α : Type} {E sz n lo hi g : Nat} {enc : α → List Value} {v : Value} {xs : List α} {φ : World → Prop} {H : List Item} {w : World} (hH : Heap H w) (hn : H[n]? = some ⟨lo, hi, φ⟩) (ho : Own E sz enc v xs w) (hg : v.ownBlock = some g) (hl : lo ≤ g ∧ g < hi) :
  Heap (H.set n (ow lo hi E sz enc v xs)) w := by
 have hok := hH.okAt hn
 exact hH.swapItem hn (ow_ok ⟨ho, fun g2 hg2 => by rw [hg] at hg2; cases hg2; exact hl⟩ hok.1 hok.2.1)
theorem c84n {v : Value} {l : List En} {w : World} (h : Rd encE 5 v l w) (h0 : l.length = 0) : Fn Tryz.prog 84 #[v, .func (.func 65) #[] #[]] w (fun u _ => u = .tuple #[]) := by
 obtain ⟨q, c, rfl, _⟩ := h.1
 rw [h0]
 refine ⟨ent Tryz.func84 (by kernel_rfl) rfl _, CallsIn.mono (callsIn_wide.2 (AnyF.slices_SortFunc_none Go.Proofs.Tryz.sortL q c (.func (.func 65) #[] #[]) w)) ?_⟩
 rintro e w' ⟨rfl, rfl⟩
 exact ⟨_, rfl, Below.refl _ _, fun _ _ => rfl⟩
theorem B.lst_inj {a b : En} : [a.n, a.d, a.f, a.t, a.a] = [b.n, b.d, b.f, b.t, b.a] ↔ a = b := by
 cases a; cases b; simp
theorem c36 {v u : Value} {l m : List En} {w : World} (h0 : Rd encE 5 v l w) (h1 : Rd encE 5 u m w) (hn : l.length ≤ 1000000) (hn2 : m.length ≤ 1000000)  :
  Fn Tryz.prog 36 [(.agg #[v]), (.agg #[u])].toArray w (fun u w => ∃ p, u = .tuple #[.agg #[p], .int .i64 (B.joinR l m).2] ∧ Rd encE 5 p (B.joinR l m).1 w) := by
 refine fn_of' (args := [(.agg #[v]), (.agg #[u])]) Tryz.func36 rfl (ent Tryz.func36 (by kernel_rfl) rfl) rfl rfl (fun hH => ?_)
 refine seq (region ?_)
 refine op_box (us := [v]) rfl rfl rfl hH (fun b1 w2 hH3 => ?_)
 refine op_box (us := [u]) rfl rfl rfl hH3 (fun b4 w5 hH6 => ?_)
 refine op_alloc (z := (.agg #[(.slice none 0 0)])) (us := [(.slice none 0 0)]) (fun _ => by kernel_rfl) rfl rfl hH6 (fun b7 w8 hH9 => ?_)
 refine oA hH9 rfl rfl (ops_nil (thn_n (seq (seq ?_))))
 by_cases hc10 : B.ck l = 0
 ·skip
  have hca : B.ck l = 0 := ‹_›
  obtain ⟨hl24, hinA, hnsA, hndA, hordA⟩ := B.ck_iff.1 hca
  refine region ?_
  refine ops_y hH9 rfl rfl (yv_loadA (cs := [v]) T.agg24 rfl rfl (fun _ hw => Heap.cellsw hw (n := 2) rfl (k := 0) rfl)) ?_
  refine op_fnV rfl rfl rfl hH9 (c21 (h0.now hH9 (n := 3) rfl) (by omega)) (fun w11 hH12 => ?_)
  refine oA hH12 rfl rfl (ops_nil (thn_n (seq (region (oM hH12 rfl rfl ?_)))))
  refine ops_y hH12 rfl rfl (yv_neq rfl rfl) ?_
  refine ops_nil (thn_n ?_)
  have hc13 : ¬ (¬ ((B.ck l) = 0)) := fun h => h hca
  refine cond_f rfl (not_decide_f hc13) ?_
  refine skip (thn_n (seq (seq ?_)))
  by_cases hc14 : B.ck m = 0
  ·skip
   have hcb : B.ck m = 0 := ‹_›
   obtain ⟨hm24, hinB, hnsB, hndB, hordB⟩ := B.ck_iff.1 hcb
   refine region ?_
   refine ops_y hH12 rfl rfl (yv_loadA (cs := [u]) T.agg24 rfl rfl (fun _ hw => Heap.cellsw hw (n := 1) rfl (k := 0) rfl)) ?_
   refine op_fnV rfl rfl rfl hH12 (c21 (h1.now hH12 (n := 3) rfl) (by omega)) (fun w15 hH16 => ?_)
   refine oA hH16 rfl rfl (ops_nil (thn_n (seq (region (oM hH16 rfl rfl ?_)))))
   refine ops_y hH16 rfl rfl (yv_neq rfl rfl) ?_
   refine ops_nil (thn_n ?_)
   have hc17 : ¬ (¬ ((B.ck m) = 0)) := fun h => h hcb
   refine cond_f rfl (not_decide_f hc17) ?_
   refine skip (thn_n (seq (region ?_)))
   refine ops_y hH16 rfl rfl (yv_field T.f24_0 rfl) ?_
   refine ops_y hH16 rfl rfl (yv_load T.one22 rfl (fun _ hw => Heap.cellw hw (n := 2) rfl rfl)) ?_
   refine op_fn rfl rfl rfl hH16 (c81 (h0.now hH16 (n := 3) rfl) (by omega)) (fun u20 w18 lo21 hi22 hH19 hv23 => ?_)
   have hH24 := Heap.toOw hH19 (n := 0) rfl
   refine oA hH24 rfl rfl (ops_nil (thn_n (seq (seq (region ?_)))))
   refine ops_y hH24 rfl rfl (yv_field T.f24_0 rfl) ?_
   refine ops_y hH24 rfl rfl (yv_load T.one22 rfl (fun _ hw => Heap.cellw hw (n := 2) rfl rfl)) ?_
   refine ops_y hH24 rfl rfl (yv_len T.sl22 rfl (h1.now hH24 (n := 4) rfl).is) ?_
   refine oM hH24 rfl rfl (ops_nil (thn_n (block ?_)))
   refine loop (S := Nat × Value × Nat × Nat) (fun (i, v_8, lo_8, hi_8) => [(31, (.int .i64 (i : Int))), (8, v_8), (2, (.pointer (some ⟨b1, 0, none⟩))), (4, (.pointer (some ⟨b7, 0, none⟩))), (29, u), (30, (.int .i64 (m.length : Int)))]) (fun (i, v_8, lo_8, hi_8) w1 => Heap [ow lo_8 hi_8 38 5 encE v_8 (l ++ B.news l (m.take i)), bx b7 24 [(.slice none 0 0)], bx b4 24 [u], bx b1 24 [v], base w] w1 ∧ i ≤ m.length ∧ ∀ i2 : Nat, i2 < i → has (B.isN (nth m (i2 : Int)).n) l = true → B.fnd l (nth m (i2 : Int)).n = nth m (i2 : Int)) (fun (i, v_8, lo_8, hi_8) => m.length - i) (0, u20, lo21, hi22) (uC rfl (uC rfl (uC rfl (uC rfl (uC rfl (uC rfl (Sub.nil _))))))) ?_ ?_
   ·exact ⟨(Heap.recast (n := 0) hH24 rfl (by simp [B.news])), by omega, fun i2 h => by omega⟩
   ·rintro ⟨i, v_8, lo_8, hi_8⟩ w25 ⟨hH26, hi, hall⟩
    show Holds _ _ _ _ _ [(31, (.int .i64 (i : Int))), (8, v_8), (2, (.pointer (some ⟨b1, 0, none⟩))), (4, (.pointer (some ⟨b7, 0, none⟩))), (29, u), (30, (.int .i64 (m.length : Int)))] _ _
    have hnl := B.news_len (a := l) (l := m.take i)
    have hmt : (m.take i).length = i := by rw [List.length_take]; omega
    refine seq (region ?_)
    refine ops_y hH26 rfl rfl (yv_lss rfl rfl) ?_
    refine ops_nil (thn_n (seq ?_))
    by_cases hc27 : (i : Int) < (m.length : Int)
    ·skip
     refine cond_t rfl (dT hc27) ?_
     refine skip (thn_n (seq (block (seq (region ?_)))))
     refine ops_y hH26 rfl rfl (yv_index T.sl22 rfl rfl (h1.now hH26 (n := 4) rfl).is (by omega)) ?_
     refine ops_y hH26 rfl rfl (yv_loadA (cs := [(.int .i64 ((nth m (i : Int)).n)), (.int .i64 ((nth m (i : Int)).d)), (.int .i64 ((nth m (i : Int)).f)), (.int .i64 ((nth m (i : Int)).t)), (.int .i64 ((nth m (i : Int)).a))]) T.agg38 rfl rfl (fun _ hw => Rd.atA (h1.now hw (n := 4) rfl) (i := (i : Int)) (by omega))) ?_
     refine op_alloc (z := (.agg #[(.int .i64 0), (.int .i64 0), (.int .i64 0), (.int .i64 0), (.int .i64 0)])) (us := [(.int .i64 0), (.int .i64 0), (.int .i64 0), (.int .i64 0), (.int .i64 0)]) (fun _ => by kernel_rfl) rfl rfl hH26 (fun b28 w29 hH30 => ?_)
     refine op_store (n := 0) (j := 0) (us := [(.int .i64 ((nth m (i : Int)).n)), (.int .i64 ((nth m (i : Int)).d)), (.int .i64 ((nth m (i : Int)).f)), (.int .i64 ((nth m (i : Int)).t)), (.int .i64 ((nth m (i : Int)).a))]) rfl rfl hH30 rfl T.sz38 rfl rfl rfl (by rfl) (fun w31 hH32 => ?_)
     refine ops_nil (thn_n (seq (region ?_)))
     refine ops_y hH32 rfl rfl (yv_field T.f24_0 rfl) ?_
     refine ops_y hH32 rfl rfl (yv_load T.one22 rfl (fun _ hw => Heap.cellw hw (n := 4) rfl rfl)) ?_
     refine ops_y hH32 rfl rfl (yv_func rfl rfl) ?_
     refine op_fnV rfl rfl rfl hH32 (c82 (e := (nth m (i : Int))) (h0.now hH32 (n := 5) rfl) (Heap.bxw hH32 (n := 0) rfl) (by omega)) (fun w33 hH34 => ?_)
     refine oM hH34 rfl rfl (ops_y hH34 rfl rfl (yv_extract rfl rfl) (ops_y hH34 rfl rfl (yv_extract rfl rfl) ?_))
     refine op_alloc (z := (.agg #[(.int .i64 0), (.int .i64 0), (.int .i64 0), (.int .i64 0), (.int .i64 0)])) (us := [(.int .i64 0), (.int .i64 0), (.int .i64 0), (.int .i64 0), (.int .i64 0)]) (fun _ => by kernel_rfl) rfl rfl hH34 (fun b35 w36 hH37 => ?_)
     refine op_store (n := 0) (j := 0) (us := [(.int .i64 ((B.fnd l (nth m (i : Int)).n).n)), (.int .i64 ((B.fnd l (nth m (i : Int)).n).d)), (.int .i64 ((B.fnd l (nth m (i : Int)).n).f)), (.int .i64 ((B.fnd l (nth m (i : Int)).n).t)), (.int .i64 ((B.fnd l (nth m (i : Int)).n).a))]) rfl rfl hH37 rfl T.sz38 rfl rfl rfl (by rfl) (fun w38 hH39 => ?_)
     refine oA hH39 rfl rfl (ops_nil (thn_n (block (seq (region (oM hH39 rfl rfl (oM hH39 rfl rfl ?_)))))))
     by_cases hc40 : has (B.isN (nth m (i : Int)).n) l = true
     ·skip
      have hkn : has (B.isN (nth m (i : Int)).n) l = true := hc40
      refine guard_yes rfl rfl hc40 ?_
      refine ops_y hH39 rfl rfl (yv_loadA (cs := [(.int .i64 ((B.fnd l (nth m (i : Int)).n).n)), (.int .i64 ((B.fnd l (nth m (i : Int)).n).d)), (.int .i64 ((B.fnd l (nth m (i : Int)).n).f)), (.int .i64 ((B.fnd l (nth m (i : Int)).n).t)), (.int .i64 ((B.fnd l (nth m (i : Int)).n).a))]) T.agg38 rfl rfl (fun _ hw => Heap.cellsw hw (n := 0) rfl (k := 0) rfl)) ?_
      refine guard_yes rfl rfl hc40 ?_
      refine ops_y hH39 rfl rfl (yv_loadA (cs := [(.int .i64 ((nth m (i : Int)).n)), (.int .i64 ((nth m (i : Int)).d)), (.int .i64 ((nth m (i : Int)).f)), (.int .i64 ((nth m (i : Int)).t)), (.int .i64 ((nth m (i : Int)).a))]) T.agg38 rfl rfl (fun _ hw => Heap.cellsw hw (n := 1) rfl (k := 0) rfl)) ?_
      refine guard_yes rfl rfl hc40 ?_
      refine ops_y hH39 rfl rfl (yv_neA (a := [(B.fnd l (nth m (i : Int)).n).n, (B.fnd l (nth m (i : Int)).n).d, (B.fnd l (nth m (i : Int)).n).f, (B.fnd l (nth m (i : Int)).n).t, (B.fnd l (nth m (i : Int)).n).a]) (b := [(nth m (i : Int)).n, (nth m (i : Int)).d, (nth m (i : Int)).f, (nth m (i : Int)).t, (nth m (i : Int)).a]) T.eqi38 rfl rfl rfl rfl) ?_
      refine ops_y hH39 rfl rfl (yv_pick_t rfl hc40 rfl) ?_
      refine oA hH39 rfl rfl (ops_nil (thn_n ?_))
      by_cases hc41 : [(B.fnd l (nth m (i : Int)).n).n, (B.fnd l (nth m (i : Int)).n).d, (B.fnd l (nth m (i : Int)).n).f, (B.fnd l (nth m (i : Int)).n).t, (B.fnd l (nth m (i : Int)).n).a] = [(nth m (i : Int)).n, (nth m (i : Int)).d, (nth m (i : Int)).f, (nth m (i : Int)).t, (nth m (i : Int)).a]
      ·skip
       have hst : has (B.isN (nth m (i : Int)).n) l = true → B.fnd l (nth m (i : Int)).n = nth m (i : Int) := fun _ => B.lst_inj.1 ‹_›
       refine cond_f rfl (not_decide_n hc41) ?_
       refine seq (region (oM hH39 rfl rfl ?_))
       refine ops_y hH39 rfl rfl (yv_not rfl) ?_
       refine oA hH39 rfl rfl (ops_nil (thn_n ?_))
       refine cond_f rfl (bnot_f hc40) ?_
       refine skip (blk_n (blk_n (thn_n (region ?_))))
       refine ops_y hH39 rfl rfl (yv_add rfl rfl (by omega)) ?_
       refine oM hH39 rfl rfl (ops_nil ?_)
       have hH42 := (hH39.sub (sC (sC sR)))
       refine lp_n (i + 1, v_8, lo_8, hi_8) (uC rfl (uC rfl (uC rfl (uC rfl (uC rfl (uC rfl (Sub.nil _))))))) ?_ ?_
       ·exact ⟨(Heap.recast (n := 0) hH42 rfl (by first | rw [B.news_t (by omega) hkn] | rw [B.news_f (by omega) hkf, List.append_assoc])), by omega, B.all_snoc hall hst⟩
       ·first | (dsimp only; omega) | (show _ < _; omega)
      ·skip
       have hcl := B.clash_fnd (a := l) (b := m) (i := i) (by omega) hkn (fun e => absurd (B.lst_inj.2 e) ‹_›)
       refine cond_t rfl (not_decide_t hc41) ?_
       refine seq (region ?_)
       refine ops_y hH39 rfl rfl (yv_build (v := (.agg #[(.slice none 0 0)])) (us := []) (fun a ha => by simp []) (fun w => by kernel_rfl)) ?_
       refine op_store (n := 3) (j := 0) (us := [(.slice none 0 0)]) rfl rfl hH39 rfl T.sz24 rfl rfl rfl (by rfl) (fun w43 hH44 => ?_)
       refine oA hH44 rfl rfl (ops_nil (thn_n (ret (blk_r (blk_r (thn_r (lp_r (blk_r (thn_r ?_)))))))))
       have hH45 := (hH44.sub (sC (sC (sC (List.Sublist.cons_cons _ (sC (sC sR)))))))
       refine fin (hH45.front (n := 1) rfl) (fun w' hf => (res2 rfl (rvA (cs := [(.slice none 0 0)]) rfl T.agg24 rfl (bx_cells (Heap.bxw hf (n := 1) rfl) (k := 0) rfl)) (show RV _ _ _ (.tmp 5) _ from rfl))) (fun w' hf => ?_)
       first | (rw [B.joinR_a hcan]; exact ⟨_, rfl, Rd.nil⟩) | (rw [B.joinR_b hca hcbn]; exact ⟨_, rfl, Rd.nil⟩) | (rw [B.joinR_c hca hcb hcl]; exact ⟨_, rfl, Rd.nil⟩) | (rw [B.joinR_m hca hcb hnc hbig]; exact ⟨_, rfl, Rd.nil⟩) | (rw [B.joinR_ok hca hcb hnc hbig]; refine ⟨_, rfl, ?_⟩; show Rd encE 5 _ (B.joinL l m) _; first | (rw [← hjl]; exact Heap.rdw T.el22_encE hf (n := 0) rfl) | (rw [← B.sorted_join hordA hndB (hnm ▸ hsrt)]; exact Heap.rdw T.el22_encE hf (n := 0) rfl))
     ·skip
      have hkf : has (B.isN (nth m (i : Int)).n) l = false := (Bool.eq_false_iff.2 hc40)
      have hst : has (B.isN (nth m (i : Int)).n) l = true → B.fnd l (nth m (i : Int)).n = nth m (i : Int) := fun h => by rw [hkf] at h; cases h
      refine guard_no rfl rfl (Bool.eq_false_iff.2 hc40) rfl ?_
      refine guard_no rfl rfl (Bool.eq_false_iff.2 hc40) rfl ?_
      refine guard_no rfl rfl (Bool.eq_false_iff.2 hc40) rfl ?_
      refine ops_y hH39 rfl rfl (yv_pick_f rfl (Bool.eq_false_iff.2 hc40) rfl) ?_
      refine oA hH39 rfl rfl (ops_nil (thn_n ?_))
      refine cond_f rfl rfl ?_
      refine seq (region (oM hH39 rfl rfl ?_))
      refine ops_y hH39 rfl rfl (yv_not rfl) ?_
      refine oA hH39 rfl rfl (ops_nil (thn_n ?_))
      refine cond_t rfl (bnot_t (Bool.eq_false_iff.2 hc40)) ?_
      refine region (oM hH39 rfl rfl ?_)
      refine ops_y hH39 rfl rfl (yv_loadA (cs := [(.int .i64 ((nth m (i : Int)).n)), (.int .i64 ((nth m (i : Int)).d)), (.int .i64 ((nth m (i : Int)).f)), (.int .i64 ((nth m (i : Int)).t)), (.int .i64 ((nth m (i : Int)).a))]) T.agg38 rfl rfl (fun _ hw => Heap.cellsw hw (n := 1) rfl (k := 0) rfl)) ?_
      refine op_lit (us := [(0, (.agg #[(.int .i64 ((nth m (i : Int)).n)), (.int .i64 ((nth m (i : Int)).d)), (.int .i64 ((nth m (i : Int)).f)), (.int .i64 ((nth m (i : Int)).t)), (.int .i64 ((nth m (i : Int)).a))]))]) T.el22_encE [(nth m (i : Int))] rfl (by decide) rfl (fun a ha => by simp [ha.ev (show ev _ (.tmp 54) = some _ from rfl)]) (fun w => by kernel_rfl) hH39 (fun u46 lo48 hi49 w47 hH50 => ?_)
      refine op_append (n := 3) T.el22_encE rfl rfl rfl hH50 rfl (Heap.rdw T.el22_encE hH50 (n := 0) rfl) (by first | omega | (simp only [List.length_append, List.length_cons, List.length_nil]; omega)) (fun u51 lo53 hi54 w52 hH55 => ?_)
      refine oA hH55 rfl rfl (ops_nil (blk_n (blk_n (thn_n (region ?_)))))
      refine ops_y hH55 rfl rfl (yv_add rfl rfl (by omega)) ?_
      refine oM hH55 rfl rfl (ops_nil ?_)
      have hH56 := (hH55.sub (sC (sC (sC sR))))
      refine lp_n (i + 1, u51, lo53, hi54) (uC rfl (uC rfl (uC rfl (uC rfl (uC rfl (uC rfl (Sub.nil _))))))) ?_ ?_
      ·exact ⟨(Heap.recast (n := 0) hH56 rfl (by first | rw [B.news_t (by omega) hkn] | rw [B.news_f (by omega) hkf, List.append_assoc])), by omega, B.all_snoc hall hst⟩
      ·first | (dsimp only; omega) | (show _ < _; omega)
    ·skip
     have hie : i = m.length := by omega
     have hnm := B.news_all (a := l) (b := m) hie
     have hnc : B.clash l m = false := B.clash_fnd_none hndA (fun i2 hi2 => hall i2 (by omega))
     have hlo : (l ++ B.news l (m.take i)).length = l.length + (B.news l m).length := by rw [hnm, List.length_append]
     refine cond_f rfl (dF hc27) ?_
     refine exit (thn_x (lp_x (blk_here (thn_n (seq (seq (region (oM hH26 rfl rfl ?_))))))))
     refine ops_y hH26 rfl rfl (yv_len T.sl22 rfl (Heap.rdw T.el22_encE hH26 (n := 0) rfl).is) ?_
     refine ops_y hH26 rfl rfl (yv_gtr rfl rfl) ?_
     refine ops_nil (thn_n ?_)
     by_cases hc57 : 24 < ((l ++ B.news l (m.take i)).length : Int)
     ·skip
      have hbig : 24 < l.length + (B.news l m).length := by omega
      refine cond_t rfl (dT hc57) ?_
      refine seq (region ?_)
      refine ops_y hH26 rfl rfl (yv_build (v := (.agg #[(.slice none 0 0)])) (us := []) (fun a ha => by simp []) (fun w => by kernel_rfl)) ?_
      refine op_store (n := 1) (j := 0) (us := [(.slice none 0 0)]) rfl rfl hH26 rfl T.sz24 rfl rfl rfl (by rfl) (fun w58 hH59 => ?_)
      refine oA hH59 rfl rfl (ops_nil (thn_n (ret (thn_r ?_))))
      have hH60 := (hH59.sub (sC (List.Sublist.cons_cons _ (sC (sC sR)))))
      refine fin (hH60.front (n := 1) rfl) (fun w' hf => (res2 rfl (rvA (cs := [(.slice none 0 0)]) rfl T.agg24 rfl (bx_cells (Heap.bxw hf (n := 1) rfl) (k := 0) rfl)) (show RV _ _ _ (.tmp 5) _ from rfl))) (fun w' hf => ?_)
      first | (rw [B.joinR_a hcan]; exact ⟨_, rfl, Rd.nil⟩) | (rw [B.joinR_b hca hcbn]; exact ⟨_, rfl, Rd.nil⟩) | (rw [B.joinR_c hca hcb hcl]; exact ⟨_, rfl, Rd.nil⟩) | (rw [B.joinR_m hca hcb hnc hbig]; exact ⟨_, rfl, Rd.nil⟩) | (rw [B.joinR_ok hca hcb hnc hbig]; refine ⟨_, rfl, ?_⟩; show Rd encE 5 _ (B.joinL l m) _; first | (rw [← hjl]; exact Heap.rdw T.el22_encE hf (n := 0) rfl) | (rw [← B.sorted_join hordA hndB (hnm ▸ hsrt)]; exact Heap.rdw T.el22_encE hf (n := 0) rfl))
     ·skip
      have hbig : ¬ 24 < l.length + (B.news l m).length := by omega
      refine cond_f rfl (dF hc57) ?_
      refine skip (thn_n (seq ?_))
      by_cases hc61 : (l ++ B.news l (m.take i)).length = 0
      ·skip
       have he0 : (l ++ B.news l (m.take i)).length = 0 := ‹_›
       have hjl : l ++ B.news l (m.take i) = B.joinL l m := B.join_nil (by omega) he0
       refine region (oM hH26 rfl rfl ?_)
       refine op_fnV rfl rfl rfl hH26 (c84n (Heap.rdw T.el22_encE hH26 (n := 0) rfl) he0) (fun w62 hH63 => ?_)
       refine ops_nil (thn_n (seq (region (oM hH63 rfl rfl ?_))))
       obtain ⟨_, _, hb64, _⟩ := (Heap.rdw T.el22_encE hH63 (n := 0) rfl).is
       refine ops_y hH63 rfl rfl (yv_build (v := (.agg #[v_8])) (us := [(0, v_8)]) (fun a ha => by simp [ha.ev (show ev _ (.tmp 64) = some _ from rfl)]) (fun w => by rw [hb64]; kernel_rfl)) ?_
       refine op_store (n := 1) (j := 0) (us := [v_8]) rfl rfl hH63 rfl T.sz24 rfl rfl rfl (all_one (SliceIs.one1 (Heap.rdw T.el22_encE hH63 (n := 0) rfl).is) rfl) (fun w65 hH66 => ?_)
       refine oA hH66 rfl rfl (ops_nil (thn_n (ret ?_)))
       have hH67 := (hH66.sub (List.Sublist.cons_cons _ (List.Sublist.cons_cons _ (sC (sC sR)))))
       refine fin (hH67.front (n := 2) rfl) (fun w' hf => (res2 rfl (rvA (cs := [v_8]) rfl T.agg24 rfl (bx_cells (Heap.bxw hf (n := 2) rfl) (k := 0) rfl)) (show RV _ _ _ (.tmp 5) _ from rfl))) (fun w' hf => ?_)
       first | (rw [B.joinR_a hcan]; exact ⟨_, rfl, Rd.nil⟩) | (rw [B.joinR_b hca hcbn]; exact ⟨_, rfl, Rd.nil⟩) | (rw [B.joinR_c hca hcb hcl]; exact ⟨_, rfl, Rd.nil⟩) | (rw [B.joinR_m hca hcb hnc hbig]; exact ⟨_, rfl, Rd.nil⟩) | (rw [B.joinR_ok hca hcb hnc hbig]; refine ⟨_, rfl, ?_⟩; show Rd encE 5 _ (B.joinL l m) _; first | (rw [← hjl]; exact Heap.rdw T.el22_encE hf (n := 0) rfl) | (rw [← B.sorted_join hordA hndB (hnm ▸ hsrt)]; exact Heap.rdw T.el22_encE hf (n := 0) rfl))
      ·skip
       have he1 : ¬ (l ++ B.news l (m.take i)).length = 0 := ‹_›
       refine region (oM hH26 rfl rfl ?_)
       obtain ⟨g68, hgb69, hgl70⟩ := Ow.blk (show Ow _ _ _ _ _ _ _ _ from hH26.get (n := 0) rfl) (Nat.pos_of_ne_zero he1)
       refine op_fnM (g := g68) (n := 0) rfl rfl rfl hH26 rfl hgl70 (c84 (Heap.own hH26 (n := 0) rfl) hgb69 (Nat.pos_of_ne_zero he1) (by omega)) (fun u73 w71 hH72 hv74 => ?_)
       obtain ⟨hu, ls, hsrt, hownS⟩ := hv74
       subst hu
       have hH75 := Heap.reOw (v := v_8) hH72 (n := 0) rfl hownS hgb69 hgl70
       refine ops_nil (thn_n (seq (region (oM hH75 rfl rfl ?_))))
       obtain ⟨_, _, hb76, _⟩ := (Heap.rdw T.el22_encE hH75 (n := 0) rfl).is
       refine ops_y hH75 rfl rfl (yv_build (v := (.agg #[v_8])) (us := [(0, v_8)]) (fun a ha => by simp [ha.ev (show ev _ (.tmp 64) = some _ from rfl)]) (fun w => by rw [hb76]; kernel_rfl)) ?_
       refine op_store (n := 1) (j := 0) (us := [v_8]) rfl rfl hH75 rfl T.sz24 rfl rfl rfl (all_one (SliceIs.one1 (Heap.rdw T.el22_encE hH75 (n := 0) rfl).is) rfl) (fun w77 hH78 => ?_)
       refine oA hH78 rfl rfl (ops_nil (thn_n (ret ?_)))
       have hH79 := (hH78.sub (List.Sublist.cons_cons _ (List.Sublist.cons_cons _ (sC (sC sR)))))
       refine fin (hH79.front (n := 2) rfl) (fun w' hf => (res2 rfl (rvA (cs := [v_8]) rfl T.agg24 rfl (bx_cells (Heap.bxw hf (n := 2) rfl) (k := 0) rfl)) (show RV _ _ _ (.tmp 5) _ from rfl))) (fun w' hf => ?_)
       first | (rw [B.joinR_a hcan]; exact ⟨_, rfl, Rd.nil⟩) | (rw [B.joinR_b hca hcbn]; exact ⟨_, rfl, Rd.nil⟩) | (rw [B.joinR_c hca hcb hcl]; exact ⟨_, rfl, Rd.nil⟩) | (rw [B.joinR_m hca hcb hnc hbig]; exact ⟨_, rfl, Rd.nil⟩) | (rw [B.joinR_ok hca hcb hnc hbig]; refine ⟨_, rfl, ?_⟩; show Rd encE 5 _ (B.joinL l m) _; first | (rw [← hjl]; exact Heap.rdw T.el22_encE hf (n := 0) rfl) | (rw [← B.sorted_join hordA hndB (hnm ▸ hsrt)]; exact Heap.rdw T.el22_encE hf (n := 0) rfl))
  ·skip
   have hcbn : ¬ B.ck m = 0 := ‹_›
   refine region ?_
   refine ops_y hH12 rfl rfl (yv_loadA (cs := [u]) T.agg24 rfl rfl (fun _ hw => Heap.cellsw hw (n := 1) rfl (k := 0) rfl)) ?_
   refine op_fnV rfl rfl rfl hH12 (c21 (h1.now hH12 (n := 3) rfl) (by omega)) (fun w80 hH81 => ?_)
   refine oA hH81 rfl rfl (ops_nil (thn_n (seq (region (oM hH81 rfl rfl ?_)))))
   refine ops_y hH81 rfl rfl (yv_neq rfl rfl) ?_
   refine ops_nil (thn_n ?_)
   have hc82 : ¬ ((B.ck m) = 0) := hcbn
   refine cond_t rfl (not_decide_t hc82) ?_
   refine seq (region ?_)
   refine ops_y hH81 rfl rfl (yv_build (v := (.agg #[(.slice none 0 0)])) (us := []) (fun a ha => by simp []) (fun w => by kernel_rfl)) ?_
   refine oM hH81 rfl rfl ?_
   refine op_store (n := 0) (j := 0) (us := [(.slice none 0 0)]) rfl rfl hH81 rfl T.sz24 rfl rfl rfl (by rfl) (fun w83 hH84 => ?_)
   refine oA hH84 rfl rfl (ops_nil (thn_n (ret (thn_r ?_))))
   have hH85 := (hH84.sub (List.Sublist.cons_cons _ (sC (sC sR))))
   refine fin (hH85.front (n := 1) rfl) (fun w' hf => (res2 rfl (rvA (cs := [(.slice none 0 0)]) rfl T.agg24 rfl (bx_cells (Heap.bxw hf (n := 1) rfl) (k := 0) rfl)) (show RV _ _ _ (.tmp 5) _ from rfl))) (fun w' hf => ?_)
   first | (rw [B.joinR_a hcan]; exact ⟨_, rfl, Rd.nil⟩) | (rw [B.joinR_b hca hcbn]; exact ⟨_, rfl, Rd.nil⟩) | (rw [B.joinR_c hca hcb hcl]; exact ⟨_, rfl, Rd.nil⟩) | (rw [B.joinR_m hca hcb hnc hbig]; exact ⟨_, rfl, Rd.nil⟩) | (rw [B.joinR_ok hca hcb hnc hbig]; refine ⟨_, rfl, ?_⟩; show Rd encE 5 _ (B.joinL l m) _; first | (rw [← hjl]; exact Heap.rdw T.el22_encE hf (n := 0) rfl) | (rw [← B.sorted_join hordA hndB (hnm ▸ hsrt)]; exact Heap.rdw T.el22_encE hf (n := 0) rfl))
 ·skip
  have hcan : ¬ B.ck l = 0 := ‹_›
  refine region ?_
  refine ops_y hH9 rfl rfl (yv_loadA (cs := [v]) T.agg24 rfl rfl (fun _ hw => Heap.cellsw hw (n := 2) rfl (k := 0) rfl)) ?_
  refine op_fnV rfl rfl rfl hH9 (c21 (h0.now hH9 (n := 3) rfl) (by omega)) (fun w86 hH87 => ?_)
  refine oA hH87 rfl rfl (ops_nil (thn_n (seq (region (oM hH87 rfl rfl ?_)))))
  refine ops_y hH87 rfl rfl (yv_neq rfl rfl) ?_
  refine ops_nil (thn_n ?_)
  have hc88 : ¬ ((B.ck l) = 0) := hcan
  refine cond_t rfl (not_decide_t hc88) ?_
  refine seq (region ?_)
  refine ops_y hH87 rfl rfl (yv_build (v := (.agg #[(.slice none 0 0)])) (us := []) (fun a ha => by simp []) (fun w => by kernel_rfl)) ?_
  refine oM hH87 rfl rfl ?_
  refine op_store (n := 0) (j := 0) (us := [(.slice none 0 0)]) rfl rfl hH87 rfl T.sz24 rfl rfl rfl (by rfl) (fun w89 hH90 => ?_)
  refine oA hH90 rfl rfl (ops_nil (thn_n (ret (thn_r ?_))))
  have hH91 := (hH90.sub (List.Sublist.cons_cons _ (sC (sC sR))))
  refine fin (hH91.front (n := 1) rfl) (fun w' hf => (res2 rfl (rvA (cs := [(.slice none 0 0)]) rfl T.agg24 rfl (bx_cells (Heap.bxw hf (n := 1) rfl) (k := 0) rfl)) (show RV _ _ _ (.tmp 5) _ from rfl))) (fun w' hf => ?_)
  first | (rw [B.joinR_a hcan]; exact ⟨_, rfl, Rd.nil⟩) | (rw [B.joinR_b hca hcbn]; exact ⟨_, rfl, Rd.nil⟩) | (rw [B.joinR_c hca hcb hcl]; exact ⟨_, rfl, Rd.nil⟩) | (rw [B.joinR_m hca hcb hnc hbig]; exact ⟨_, rfl, Rd.nil⟩) | (rw [B.joinR_ok hca hcb hnc hbig]; refine ⟨_, rfl, ?_⟩; show Rd encE 5 _ (B.joinL l m) _; first | (rw [← hjl]; exact Heap.rdw T.el22_encE hf (n := 0) rfl) | (rw [← B.sorted_join hordA hndB (hnm ▸ hsrt)]; exact Heap.rdw T.el22_encE hf (n := 0) rfl))
end Go.Fip
namespace Go.Fip
open Go.Proofs Go.RowKit
theorem B.has_tk {p : En → Bool} {l : List En} {j : Nat} (hj : j < l.length) : has p (l.take (j + 1)) = (has p (l.take j) || p (nth l (j : Int))) := by
 rw [Bool.eq_iff_iff, Bool.or_eq_true, has_iff, has_iff]
 have h1 : (l.take (j + 1)).length = j + 1 := by rw [List.length_take]; omega
 have h2 : (l.take j).length = j := by rw [List.length_take]; omega
 have e1 : ∀ i : Nat, i < j + 1 → nth (l.take (j + 1)) (i : Int) = nth l (i : Int) := fun i hi => by rw [nth_nat (by omega), nth_nat (by omega), List.getElem_take]
 have e2 : ∀ i : Nat, i < j → nth (l.take j) (i : Int) = nth l (i : Int) := fun i hi => by rw [nth_nat (by omega), nth_nat (by omega), List.getElem_take]
 rw [h1, h2]
 constructor
 ·rintro ⟨i, hi, hp⟩
  by_cases e : i = j
  ·subst e; right; rwa [e1 _ hi] at hp
  ·left; exact ⟨i, by omega, by rw [e2 i (by omega)]; rwa [e1 _ hi] at hp⟩
 ·rintro (⟨i, hi, hp⟩ | hp)
  ·exact ⟨i, by omega, by rw [e1 i (by omega)]; rwa [e2 _ hi] at hp⟩
  ·exact ⟨j, by omega, by rwa [e1 j (by omega)]⟩
theorem B.has_tk_same {n : Int} {l : List En} {j : Nat} (hj : j < l.length) (h : ¬ (nth l (j : Int)).n = n) : has (B.isN n) (l.take j) = has (B.isN n) (l.take (j + 1)) := by
 rw [B.has_tk hj, show B.isN n (nth l (j : Int)) = false from dF h, Bool.or_false]
theorem B.has_tk_t {n : Int} {l : List En} {j : Nat} (hj : j < l.length) (h : (nth l (j : Int)).n = n) : true = has (B.isN n) (l.take (j + 1)) := by
 rw [B.has_tk hj, show B.isN n (nth l (j : Int)) = true from dT h, Bool.or_true]
theorem B.has_all {p : En → Bool} {l : List En} {j : Nat} (h : j = l.length) : has p (l.take j) = has p l := by rw [h, List.take_length]
theorem c37 {v u : Value} {l m : List En} {w : World} (h0 : Rd encE 5 v l w) (h1 : Rd encE 5 u m w) (hn : l.length ≤ 1000000) (hn2 : m.length ≤ 1000000)  :
  Fn Tryz.prog 37 [(.agg #[v]), (.agg #[u])].toArray w (fun u w => ∃ p, u = .tuple #[.agg #[p], .int .i64 (B.joinR l m).2] ∧ Rd encE 5 p (B.joinR l m).1 w) := by
 refine fn_of' (args := [(.agg #[v]), (.agg #[u])]) Tryz.func37 rfl (ent Tryz.func37 (by kernel_rfl) rfl) rfl rfl (fun hH => ?_)
 refine seq (region ?_)
 refine op_box (us := [v]) rfl rfl rfl hH (fun b1 w2 hH3 => ?_)
 refine op_box (us := [u]) rfl rfl rfl hH3 (fun b4 w5 hH6 => ?_)
 refine op_alloc (z := (.agg #[(.slice none 0 0)])) (us := [(.slice none 0 0)]) (fun _ => by kernel_rfl) rfl rfl hH6 (fun b7 w8 hH9 => ?_)
 refine oA hH9 rfl rfl (ops_nil (thn_n (seq (seq ?_))))
 by_cases hc10 : B.ck l = 0
 ·skip
  have hca : B.ck l = 0 := ‹_›
  obtain ⟨hl24, hinA, hnsA, hndA, hordA⟩ := B.ck_iff.1 hca
  refine region ?_
  refine ops_y hH9 rfl rfl (yv_loadA (cs := [v]) T.agg24 rfl rfl (fun _ hw => Heap.cellsw hw (n := 2) rfl (k := 0) rfl)) ?_
  refine op_fnV rfl rfl rfl hH9 (c22 (h0.now hH9 (n := 3) rfl) (by omega)) (fun w11 hH12 => ?_)
  refine ops_y hH12 rfl rfl (yv_neq rfl rfl) ?_
  refine ops_nil (thn_n ?_)
  have hc13 : ¬ (¬ ((B.ck l) = 0)) := fun h => h hca
  refine cond_f rfl (not_decide_f hc13) ?_
  refine skip (thn_n (seq (seq ?_)))
  by_cases hc14 : B.ck m = 0
  ·skip
   have hcb : B.ck m = 0 := ‹_›
   obtain ⟨hm24, hinB, hnsB, hndB, hordB⟩ := B.ck_iff.1 hcb
   refine region ?_
   refine ops_y hH12 rfl rfl (yv_loadA (cs := [u]) T.agg24 rfl rfl (fun _ hw => Heap.cellsw hw (n := 1) rfl (k := 0) rfl)) ?_
   refine op_fnV rfl rfl rfl hH12 (c22 (h1.now hH12 (n := 3) rfl) (by omega)) (fun w15 hH16 => ?_)
   refine ops_y hH16 rfl rfl (yv_neq rfl rfl) ?_
   refine ops_nil (thn_n ?_)
   have hc17 : ¬ (¬ ((B.ck m) = 0)) := fun h => h hcb
   refine cond_f rfl (not_decide_f hc17) ?_
   refine skip (thn_n (seq (region ?_)))
   refine op_lit (us := []) T.el22_encE ([] : List En) rfl (by decide) rfl (fun a ha => by simp) (fun w => by kernel_rfl) hH16 (fun u18 lo20 hi21 w19 hH22 => ?_)
   refine ops_y hH22 rfl rfl (yv_field T.f24_0 rfl) ?_
   refine ops_y hH22 rfl rfl (yv_load T.one22 rfl (fun _ hw => Heap.cellw hw (n := 3) rfl rfl)) ?_
   refine op_append (n := 0) T.el22_encE rfl rfl rfl hH22 rfl (h0.now hH22 (n := 4) rfl) (by first | omega | (simp only [List.length_append, List.length_cons, List.length_nil]; omega)) (fun u23 lo25 hi26 w24 hH27 => ?_)
   refine oA hH27 rfl rfl (ops_nil (thn_n (seq (seq (region (oA hH27 rfl rfl (ops_nil (thn_n (block ?_)))))))))
   refine loop (S := Nat × Value × Nat × Nat) (fun (i, v_6, lo_6, hi_6) => [(7, (.int .i64 (i : Int))), (6, v_6), (2, (.pointer (some ⟨b1, 0, none⟩))), (3, (.pointer (some ⟨b4, 0, none⟩))), (4, (.pointer (some ⟨b7, 0, none⟩)))]) (fun (i, v_6, lo_6, hi_6) w1 => Heap [ow lo_6 hi_6 38 5 encE v_6 (B.joinTo l m i), bx b7 24 [(.slice none 0 0)], bx b4 24 [u], bx b1 24 [v], base w] w1 ∧ i ≤ m.length ∧ ∀ i2 : Nat, i2 < i → ∀ j : Nat, j < l.length → (nth l (j : Int)).n = (nth m (i2 : Int)).n → nth l (j : Int) = nth m (i2 : Int)) (fun (i, v_6, lo_6, hi_6) => m.length - i) (0, u23, lo25, hi26) (uC rfl (uC rfl (uC rfl (uC rfl (uC rfl (Sub.nil _)))))) ?_ ?_
   ·exact ⟨(Heap.recast (n := 0) hH27 rfl (by simp [B.joinTo, B.news])), by omega, fun i2 h => by omega⟩
   ·rintro ⟨i, v_6, lo_6, hi_6⟩ w28 ⟨hH29, hi, hall⟩
    show Holds _ _ _ _ _ [(7, (.int .i64 (i : Int))), (6, v_6), (2, (.pointer (some ⟨b1, 0, none⟩))), (3, (.pointer (some ⟨b4, 0, none⟩))), (4, (.pointer (some ⟨b7, 0, none⟩)))] _ _
    have hjl := B.joinTo_len (a := l) (b := m) (i := i)
    have hnl := B.news_len (a := l) (l := m.take i)
    have hmt : (m.take i).length ≤ i := by rw [List.length_take]; omega
    refine seq (seq (region (oM hH29 rfl rfl ?_)))
    refine ops_y hH29 rfl rfl (yv_field T.f24_0 rfl) ?_
    refine ops_y hH29 rfl rfl (yv_load T.one22 rfl (fun _ hw => Heap.cellw hw (n := 2) rfl rfl)) ?_
    refine ops_y hH29 rfl rfl (yv_len T.sl22 rfl (h1.now hH29 (n := 4) rfl).is) ?_
    refine ops_y hH29 rfl rfl (yv_lss rfl rfl) ?_
    refine ops_nil (thn_n ?_)
    by_cases hc30 : (i : Int) < (m.length : Int)
    ·skip
     refine cond_t rfl (dT hc30) ?_
     refine skip (thn_n (seq (block (seq (region (oA hH29 rfl rfl (ops_nil (thn_n (seq ?_)))))))))
     refine seq (region (oA hH29 rfl rfl (ops_nil (thn_n (block ?_)))))
     refine loop (S := Nat) (fun j => [(8, (.bool (has (B.isN (nth m (i : Int)).n) (l.take j)))), (9, (.int .i64 (j : Int))), (2, (.pointer (some ⟨b1, 0, none⟩))), (3, (.pointer (some ⟨b4, 0, none⟩))), (4, (.pointer (some ⟨b7, 0, none⟩))), (6, v_6), (7, (.int .i64 (i : Int)))]) (fun j w1 => Heap [ow lo_6 hi_6 38 5 encE v_6 (B.joinTo l m i), bx b7 24 [(.slice none 0 0)], bx b4 24 [u], bx b1 24 [v], base w] w1 ∧ j ≤ l.length ∧ ∀ j2 : Nat, j2 < j → (nth l (j2 : Int)).n = (nth m (i : Int)).n → nth l (j2 : Int) = nth m (i : Int)) (fun j => l.length - j) (0) (uC rfl (uC rfl (uC rfl (uC rfl (uC rfl (uC rfl (uC rfl (Sub.nil _)))))))) ?_ ?_
     ·exact ⟨hH29, by omega, fun j2 h => by omega⟩
     ·rintro j w31 ⟨hH32, hj, hal2⟩
      show Holds _ _ _ _ _ [(8, (.bool (has (B.isN (nth m (i : Int)).n) (l.take j)))), (9, (.int .i64 (j : Int))), (2, (.pointer (some ⟨b1, 0, none⟩))), (3, (.pointer (some ⟨b4, 0, none⟩))), (4, (.pointer (some ⟨b7, 0, none⟩))), (6, v_6), (7, (.int .i64 (i : Int)))] _ _
      refine seq (seq (region (oM hH32 rfl rfl ?_)))
      refine ops_y hH32 rfl rfl (yv_field T.f24_0 rfl) ?_
      refine ops_y hH32 rfl rfl (yv_load T.one22 rfl (fun _ hw => Heap.cellw hw (n := 3) rfl rfl)) ?_
      refine ops_y hH32 rfl rfl (yv_len T.sl22 rfl (h0.now hH32 (n := 4) rfl).is) ?_
      refine ops_y hH32 rfl rfl (yv_lss rfl rfl) ?_
      refine ops_nil (thn_n ?_)
      by_cases hc33 : (j : Int) < (l.length : Int)
      ·skip
       refine cond_t rfl (dT hc33) ?_
       refine skip (thn_n (seq (block (seq (seq ?_)))))
       refine region_draw (fun w' => Heap [ow lo_6 hi_6 38 5 encE v_6 (B.joinTo l m i), bx b7 24 [(.slice none 0 0)], bx b4 24 [u], bx b1 24 [v], base w] w') T.mixed (fun w34 hr35 => ?_)
       have hH36 := hH32.redrawn hr35
       refine any_takes [0, 1, 2, 3, 4, 5, 6, 7, 8, 9, 10, 11, 12] (by kernel_rfl) hH36 _ _ _ (by kernel_rfl) ?_
       refine qs_y rfl rfl (yv_field T.f24_0 rfl) ?_
       refine qs_y rfl rfl (yv_load T.one22 rfl (fun _ hw => Heap.cellw hw (n := 3) rfl rfl)) ?_
       refine qM rfl rfl rfl ?_
       refine qs_y rfl rfl (yv_index T.sl22 rfl rfl (h0.now hH36 (n := 4) rfl).is (by omega)) ?_
       refine qs_y rfl rfl (yv_field T.f38_0 rfl) ?_
       refine qs_y rfl rfl (yv_load T.one2 rfl (fun _ hw => Rd.at (h0.now hw (n := 4) rfl) (i := (j : Int)) (by omega) (j := 0) rfl)) ?_
       refine qs_y rfl rfl (yv_field T.f24_0 rfl) ?_
       refine qs_y rfl rfl (yv_load T.one22 rfl (fun _ hw => Heap.cellw hw (n := 2) rfl rfl)) ?_
       refine qM rfl rfl rfl ?_
       refine qs_y rfl rfl (yv_index T.sl22 rfl rfl (h1.now hH36 (n := 4) rfl).is (by omega)) ?_
       refine qs_y rfl rfl (yv_field T.f38_0 rfl) ?_
       refine qs_y rfl rfl (yv_load T.one2 rfl (fun _ hw => Rd.at (h1.now hw (n := 4) rfl) (i := (i : Int)) (by omega) (j := 0) rfl)) ?_
       refine qs_y rfl rfl (yv_neq rfl rfl) ?_
       refine qs_nil ?_
       refine any_done (by kernel_rfl) ?_
       refine thn_n ?_
       by_cases hc37 : ((nth l (j : Int)).n) = ((nth m (i : Int)).n)
       ·skip
        have hsn : (nth l (j : Int)).n = (nth m (i : Int)).n := by omega
        refine cond_f rfl (not_decide_n hc37) ?_
        refine skip (thn_n (seq (seq ?_)))
        refine region_draw (fun w' => Heap [ow lo_6 hi_6 38 5 encE v_6 (B.joinTo l m i), bx b7 24 [(.slice none 0 0)], bx b4 24 [u], bx b1 24 [v], base w] w') T.mixed (fun w38 hr39 => ?_)
        have hH40 := hH36.redrawn hr39
        refine any_takes [0, 1, 2, 3, 4, 5, 6, 7, 8, 9, 10] (by kernel_rfl) hH40 _ _ _ (by kernel_rfl) ?_
        refine qs_y rfl rfl (yv_field T.f24_0 rfl) ?_
        refine qs_y rfl rfl (yv_load T.one22 rfl (fun _ hw => Heap.cellw hw (n := 3) rfl rfl)) ?_
        refine qM rfl rfl rfl ?_
        refine qs_y rfl rfl (yv_index T.sl22 rfl rfl (h0.now hH40 (n := 4) rfl).is (by omega)) ?_
        refine qs_y rfl rfl (yv_loadA (cs := [(.int .i64 ((nth l (j : Int)).n)), (.int .i64 ((nth l (j : Int)).d)), (.int .i64 ((nth l (j : Int)).f)), (.int .i64 ((nth l (j : Int)).t)), (.int .i64 ((nth l (j : Int)).a))]) T.agg38 rfl rfl (fun _ hw => Rd.atA (h0.now hw (n := 4) rfl) (i := (j : Int)) (by omega))) ?_
        refine qs_y rfl rfl (yv_field T.f24_0 rfl) ?_
        refine qs_y rfl rfl (yv_load T.one22 rfl (fun _ hw => Heap.cellw hw (n := 2) rfl rfl)) ?_
        refine qM rfl rfl rfl ?_
        refine qs_y rfl rfl (yv_index T.sl22 rfl rfl (h1.now hH40 (n := 4) rfl).is (by omega)) ?_
        refine qs_y rfl rfl (yv_loadA (cs := [(.int .i64 ((nth m (i : Int)).n)), (.int .i64 ((nth m (i : Int)).d)), (.int .i64 ((nth m (i : Int)).f)), (.int .i64 ((nth m (i : Int)).t)), (.int .i64 ((nth m (i : Int)).a))]) T.agg38 rfl rfl (fun _ hw => Rd.atA (h1.now hw (n := 4) rfl) (i := (i : Int)) (by omega))) ?_
        refine qs_y rfl rfl (yv_neA (a := [(nth l (j : Int)).n, (nth l (j : Int)).d, (nth l (j : Int)).f, (nth l (j : Int)).t, (nth l (j : Int)).a]) (b := [(nth m (i : Int)).n, (nth m (i : Int)).d, (nth m (i : Int)).f, (nth m (i : Int)).t, (nth m (i : Int)).a]) T.eqi38 rfl rfl rfl rfl) ?_
        refine qs_nil ?_
        refine any_done (by kernel_rfl) ?_
        refine thn_n ?_
        by_cases hc41 : [(nth l (j : Int)).n, (nth l (j : Int)).d, (nth l (j : Int)).f, (nth l (j : Int)).t, (nth l (j : Int)).a] = [(nth m (i : Int)).n, (nth m (i : Int)).d, (nth m (i : Int)).f, (nth m (i : Int)).t, (nth m (i : Int)).a]
        ·skip
         have hse : nth l (j : Int) = nth m (i : Int) := B.lst_inj.1 ‹_›
         refine cond_f rfl (not_decide_n hc41) ?_
         refine skip (thn_n (region (oA hH40 rfl rfl (ops_nil (blk_n (thn_n (region (oM hH40 rfl rfl ?_))))))))
         refine ops_y hH40 rfl rfl (yv_add rfl rfl (by omega)) ?_
         refine oA hH40 rfl rfl (ops_nil ?_)
         refine lp_n (j + 1) (Sub.cons (congrArg (fun z : Bool => some (Value.bool z)) (by first | exact B.has_tk_same (by omega) ‹_› | exact B.has_tk_t (by omega) hsn)) (uC rfl (uC rfl (uC rfl (uC rfl (uC rfl (uC rfl (Sub.nil _)))))))) ?_ ?_
         ·exact ⟨hH40, by omega, B.all_snoc hal2 (by first | exact fun _ => hse | exact fun c => absurd c ‹_›)⟩
         ·first | (dsimp only; omega) | (show _ < _; omega)
        ·skip
         have hcl := B.clash_hit (a := l) (b := m) (i := i) (j := j) (by omega) (by omega) hsn (fun e => absurd (B.lst_inj.2 e) ‹_›)
         refine cond_t rfl (not_decide_t hc41) ?_
         refine seq (region ?_)
         refine ops_y hH40 rfl rfl (yv_build (v := (.agg #[(.slice none 0 0)])) (us := []) (fun a ha => by simp []) (fun w => by kernel_rfl)) ?_
         refine op_store (n := 1) (j := 0) (us := [(.slice none 0 0)]) rfl rfl hH40 rfl T.sz24 rfl rfl rfl (by rfl) (fun w42 hH43 => ?_)
         refine oA hH43 rfl rfl (ops_nil (thn_n (ret (thn_r (blk_r (thn_r (lp_r (blk_r (thn_r ?_)))))))))
         refine blk_r (thn_r (lp_r (blk_r (thn_r ?_))))
         have hH44 := (hH43.sub (sC (List.Sublist.cons_cons _ (sC (sC sR)))))
         refine fin (hH44.front (n := 1) rfl) (fun w' hf => (res2 rfl (rvA (cs := [(.slice none 0 0)]) rfl T.agg24 rfl (bx_cells (Heap.bxw hf (n := 1) rfl) (k := 0) rfl)) (show RV _ _ _ (.tmp 5) _ from rfl))) (fun w' hf => ?_)
         first | (rw [B.joinR_a hcan]; exact ⟨_, rfl, Rd.nil⟩) | (rw [B.joinR_b hca hcbn]; exact ⟨_, rfl, Rd.nil⟩) | (rw [B.joinR_c hca hcb hcl]; exact ⟨_, rfl, Rd.nil⟩) | (rw [B.joinR_m hca hcb hnc hbig]; exact ⟨_, rfl, Rd.nil⟩) | (rw [B.joinR_ok hca hcb hnc hbig]; refine ⟨_, rfl, ?_⟩; show Rd encE 5 _ (B.joinL l m) _; rw [← hjo]; exact Heap.rdw T.el22_encE hf (n := 0) rfl)
       ·skip
        refine cond_t rfl (not_decide_t hc37) ?_
        refine exit (thn_x (blk_here (thn_n (region (oM hH36 rfl rfl ?_)))))
        refine ops_y hH36 rfl rfl (yv_add rfl rfl (by omega)) ?_
        refine oA hH36 rfl rfl (ops_nil ?_)
        refine lp_n (j + 1) (Sub.cons (congrArg (fun z : Bool => some (Value.bool z)) (by first | exact B.has_tk_same (by omega) ‹_› | exact B.has_tk_t (by omega) hsn)) (uC rfl (uC rfl (uC rfl (uC rfl (uC rfl (uC rfl (Sub.nil _)))))))) ?_ ?_
        ·exact ⟨hH36, by omega, B.all_snoc hal2 (by first | exact fun _ => hse | exact fun c => absurd c ‹_›)⟩
        ·first | (dsimp only; omega) | (show _ < _; omega)
      ·skip
       have hje : j = l.length := by omega
       have hhe := B.has_all (p := B.isN (nth m (i : Int)).n) hje
       have hst : ∀ j : Nat, j < l.length → (nth l (j : Int)).n = (nth m (i : Int)).n → nth l (j : Int) = nth m (i : Int) := fun j2 h2 => hal2 j2 (by omega)
       refine cond_f rfl (dF hc33) ?_
       refine exit (thn_x (lp_x (blk_here (thn_n (seq (seq (region (oM hH32 rfl rfl (ops_nil ?_)))))))))
       refine thn_n ?_
       by_cases hc45 : has (B.isN (nth m (i : Int)).n) (l.take j) = true
       ·skip
        have hkn : has (B.isN (nth m (i : Int)).n) l = true := hhe.symm.trans hc45
        refine cond_t rfl hc45 ?_
        refine exit (thn_x (blk_here (thn_n (region (oM hH32 rfl rfl ?_)))))
        refine ops_y hH32 rfl rfl (yv_add rfl rfl (by omega)) ?_
        refine oA hH32 rfl rfl (ops_nil ?_)
        refine lp_n (i + 1, v_6, lo_6, hi_6) (uC rfl (uC rfl (uC rfl (uC rfl (uC rfl (Sub.nil _)))))) ?_ ?_
        ·exact ⟨(Heap.recast (n := 0) hH32 rfl (by first | rw [B.joinTo_t (by omega) hkn] | rw [B.joinTo_f (by omega) hkf, ← B.slid_ins (B.joinTo_srt hordA hndB (by omega)) (by omega) haft (by first | exact .inl (by omega) | exact .inr hnb)])), by omega, B.all_snoc hall hst⟩
        ·first | (dsimp only; omega) | (show _ < _; omega)
       ·skip
        have hkf : has (B.isN (nth m (i : Int)).n) l = false := hhe.symm.trans (Bool.eq_false_iff.2 hc45)
        refine cond_f rfl (Bool.eq_false_iff.2 hc45) ?_
        refine skip (thn_n (seq (region (oM hH32 rfl rfl ?_))))
        refine ops_y hH32 rfl rfl (yv_field T.f24_0 rfl) ?_
        refine ops_y hH32 rfl rfl (yv_load T.one22 rfl (fun _ hw => Heap.cellw hw (n := 2) rfl rfl)) ?_
        refine oM hH32 rfl rfl ?_
        refine ops_y hH32 rfl rfl (yv_index T.sl22 rfl rfl (h1.now hH32 (n := 4) rfl).is (by omega)) ?_
        refine ops_y hH32 rfl rfl (yv_loadA (cs := [(.int .i64 ((nth m (i : Int)).n)), (.int .i64 ((nth m (i : Int)).d)), (.int .i64 ((nth m (i : Int)).f)), (.int .i64 ((nth m (i : Int)).t)), (.int .i64 ((nth m (i : Int)).a))]) T.agg38 rfl rfl (fun _ hw => Rd.atA (h1.now hw (n := 4) rfl) (i := (i : Int)) (by omega))) ?_
        refine op_lit (us := [(0, (.agg #[(.int .i64 ((nth m (i : Int)).n)), (.int .i64 ((nth m (i : Int)).d)), (.int .i64 ((nth m (i : Int)).f)), (.int .i64 ((nth m (i : Int)).t)), (.int .i64 ((nth m (i : Int)).a))]))]) T.el22_encE [(nth m (i : Int))] rfl (by decide) rfl (fun a ha => by simp [ha.ev (show ev _ (.tmp 72) = some _ from rfl)]) (fun w => by kernel_rfl) hH32 (fun u46 lo48 hi49 w47 hH50 => ?_)
        refine op_append (n := 1) T.el22_encE rfl rfl rfl hH50 rfl (Heap.rdw T.el22_encE hH50 (n := 0) rfl) (by first | omega | (simp only [List.length_append, List.length_cons, List.length_nil]; omega)) (fun u51 lo53 hi54 w52 hH55 => ?_)
        refine oA hH55 rfl rfl (ops_nil (thn_n (seq (region (oM hH55 rfl rfl ?_)))))
        refine ops_y hH55 rfl rfl (yv_len T.sl22 rfl (Heap.rdw T.el22_encE hH55 (n := 1) rfl).is) ?_
        refine ops_y hH55 rfl rfl (yv_sub rfl rfl (by rw [List.length_append]; simp only [List.length_cons, List.length_nil]; omega)) ?_
        refine oA hH55 rfl rfl (ops_nil (thn_n (block ?_)))
        refine loop (S := Nat × Value × Nat × Nat) (fun (k, v_6, lo_6, hi_6) => [(10, (.int .i64 (k : Int))), (6, v_6), (2, (.pointer (some ⟨b1, 0, none⟩))), (3, (.pointer (some ⟨b4, 0, none⟩))), (4, (.pointer (some ⟨b7, 0, none⟩))), (7, (.int .i64 (i : Int)))]) (fun (k, v_6, lo_6, hi_6) w1 => Heap [ow lo48 hi49 38 5 encE u46 [(nth m (i : Int))], ow lo_6 hi_6 38 5 encE v_6 (B.slid (B.joinTo l m i) (nth m (i : Int)) k), bx b7 24 [(.slice none 0 0)], bx b4 24 [u], bx b1 24 [v], base w] w1 ∧ k ≤ (B.joinTo l m i).length ∧ ∀ q : Nat, k ≤ q → q < (B.joinTo l m i).length → B.bef (nth m (i : Int)) (nth (B.joinTo l m i) (q : Int))) (fun (k, v_6, lo_6, hi_6) => k) ((B.joinTo l m i).length, u51, lo53, hi54) (Sub.cons (congrArg (fun z : Int => some (Value.int .i64 z)) (by rw [List.length_append]; simp only [List.length_cons, List.length_nil]; omega)) (uC rfl (uC rfl (uC rfl (uC rfl (uC rfl (Sub.nil _))))))) ?_ ?_
        ·exact ⟨(Heap.recast (n := 1) hH55 rfl ((B.slid_end rfl).symm)), by omega, fun q h1 h2 => by omega⟩
        ·rintro ⟨k, v_6, lo_6, hi_6⟩ w56 ⟨hH57, hk, haft⟩
         show Holds _ _ _ _ _ [(10, (.int .i64 (k : Int))), (6, v_6), (2, (.pointer (some ⟨b1, 0, none⟩))), (3, (.pointer (some ⟨b4, 0, none⟩))), (4, (.pointer (some ⟨b7, 0, none⟩))), (7, (.int .i64 (i : Int)))] _ _
         have hsl := B.slid_len (l := B.joinTo l m i) (e := nth m (i : Int)) (k := k)
         have hat := B.slid_at (e := nth m (i : Int)) hk
         refine seq (seq ?_)
         refine region_draw (fun w' => Heap [ow lo48 hi49 38 5 encE u46 [(nth m (i : Int))], ow lo_6 hi_6 38 5 encE v_6 (B.slid (B.joinTo l m i) (nth m (i : Int)) k), bx b7 24 [(.slice none 0 0)], bx b4 24 [u], bx b1 24 [v], base w] w') T.mixed (fun w58 hr59 => ?_)
         have hH60 := hH57.redrawn hr59
         refine any_takes [0, 1, 2] (by kernel_rfl) hH60 _ _ _ (by kernel_rfl) ?_
         refine qM rfl rfl rfl ?_
         refine qs_y rfl rfl (yv_gtr rfl rfl) ?_
         refine qM rfl rfl rfl (qs_nil ?_)
         by_cases hc61 : 0 < (k : Int)
         ·skip
          refine any_takes [3, 4, 5, 6, 7, 8, 9, 10, 11] (by kernel_rfl) hH60 _ _ _ (by kernel_rfl) ?_
          refine qW rfl rfl rfl (dT hc61) rfl rfl ?_
          refine qW rfl rfl rfl (dT hc61) rfl rfl ?_
          refine qs_yes rfl rfl rfl (dT hc61) rfl (yv_index T.sl22 rfl rfl (Heap.rdw T.el22_encE hH60 (n := 1) rfl).is (by omega)) ?_
          refine qs_yes rfl rfl rfl (dT hc61) rfl (yv_loadA (cs := [(.int .i64 ((nth (B.slid (B.joinTo l m i) (nth m (i : Int)) k) (k : Int)).n)), (.int .i64 ((nth (B.slid (B.joinTo l m i) (nth m (i : Int)) k) (k : Int)).d)), (.int .i64 ((nth (B.slid (B.joinTo l m i) (nth m (i : Int)) k) (k : Int)).f)), (.int .i64 ((nth (B.slid (B.joinTo l m i) (nth m (i : Int)) k) (k : Int)).t)), (.int .i64 ((nth (B.slid (B.joinTo l m i) (nth m (i : Int)) k) (k : Int)).a))]) T.agg38 rfl rfl (fun _ hw => Rd.atA (Heap.rdw T.el22_encE hw (n := 1) rfl) (i := (k : Int)) (by omega))) ?_
          refine qW rfl rfl rfl (dT hc61) rfl rfl ?_
          refine qW rfl rfl rfl (dT hc61) rfl rfl ?_
          refine qs_yes rfl rfl rfl (dT hc61) rfl (yv_sub rfl rfl (by omega)) ?_
          refine qs_yes rfl rfl rfl (dT hc61) rfl (yv_index T.sl22 rfl rfl (Heap.rdw T.el22_encE hH60 (n := 1) rfl).is (by omega)) ?_
          refine qs_yes rfl rfl rfl (dT hc61) rfl (yv_loadA (cs := [(.int .i64 ((nth (B.slid (B.joinTo l m i) (nth m (i : Int)) k) ((k : Int) - 1)).n)), (.int .i64 ((nth (B.slid (B.joinTo l m i) (nth m (i : Int)) k) ((k : Int) - 1)).d)), (.int .i64 ((nth (B.slid (B.joinTo l m i) (nth m (i : Int)) k) ((k : Int) - 1)).f)), (.int .i64 ((nth (B.slid (B.joinTo l m i) (nth m (i : Int)) k) ((k : Int) - 1)).t)), (.int .i64 ((nth (B.slid (B.joinTo l m i) (nth m (i : Int)) k) ((k : Int) - 1)).a))]) T.agg38 rfl rfl (fun _ hw => Rd.atA (Heap.rdw T.el22_encE hw (n := 1) rfl) (i := (k : Int) - 1) (by omega))) ?_
          refine qs_nil ?_
          refine any_all [12] (by kernel_rfl) rfl ?_
          refine ⟨⟨_, rfl, ?_⟩, trivial⟩
          ·skip
           refine guard_yes rfl rfl (dT hc61) ?_
           refine op_fnV rfl rfl rfl hH60 (c67 ) (fun w62 hH63 => ?_)
           refine ops_nil ?_
           refine ⟨hH63, ?_⟩
           refine any_takes [13] (by kernel_rfl) hH63 _ _ _ (by kernel_rfl) ?_
           refine qs_y rfl rfl (yv_pick_t rfl (dT hc61) rfl) ?_
           refine qs_nil ?_
           refine any_done (by kernel_rfl) ?_
           refine thn_n ?_
           by_cases hc64 : B.bef (nth (B.slid (B.joinTo l m i) (nth m (i : Int)) k) (k : Int)) (nth (B.slid (B.joinTo l m i) (nth m (i : Int)) k) ((k : Int) - 1))
           ·skip
            have hk1 : 1 ≤ k := by omega
            have hpre := B.slid_pre (e := nth m (i : Int)) hk hk1
            have hbb : B.bef (nth m (i : Int)) (nth (B.joinTo l m i) ((k : Int) - 1)) := by rw [← hat, ← hpre]; assumption
            have hsw := B.slid_swap (e := nth m (i : Int)) hk hk1
            refine cond_t rfl (dT hc64) ?_
            refine skip (thn_n (seq (block ?_)))
            refine region_drawY (fun w' => Heap [ow lo48 hi49 38 5 encE u46 [(nth m (i : Int))], ow lo_6 hi_6 38 5 encE v_6 (B.slid (B.joinTo l m i) (nth m (i : Int)) k), bx b7 24 [(.slice none 0 0)], bx b4 24 [u], bx b1 24 [v], base w] w') [15, 17] T.mixed (fun w65 hr66 => ?_)
            have hH67 := hH63.redrawn hr66
            refine any_takesT [0, 1, 2, 3, 4, 5, 6, 7, 8, 10, 11, 12] (by kernel_rfl)  _ _ _ (by kernel_rfl) ?_
            refine qM rfl rfl rfl (qM rfl rfl rfl (qM rfl rfl rfl (qM rfl rfl rfl ?_)))
            refine qs_y rfl rfl (yv_sub rfl rfl (by omega)) ?_
            refine qM rfl rfl rfl (qM rfl rfl rfl ?_)
            refine qs_y rfl rfl (yv_sub rfl rfl (by omega)) ?_
            refine qs_y rfl rfl (yv_index T.sl22 rfl rfl (Heap.rdw T.el22_encE hH67 (n := 1) rfl).is (by omega)) ?_
            refine qM rfl rfl rfl (qM rfl rfl rfl ?_)
            refine qs_y rfl rfl (yv_index T.sl22 rfl rfl (Heap.rdw T.el22_encE hH67 (n := 1) rfl).is (by omega)) ?_
            refine qs_nil ?_
            refine any_takesY [9, 13] (by kernel_rfl) hH67 _ _ _ (by kernel_rfl) ?_
            refine qs_y rfl rfl (yv_loadA (cs := [(.int .i64 ((nth (B.slid (B.joinTo l m i) (nth m (i : Int)) k) ((k : Int) - 1)).n)), (.int .i64 ((nth (B.slid (B.joinTo l m i) (nth m (i : Int)) k) ((k : Int) - 1)).d)), (.int .i64 ((nth (B.slid (B.joinTo l m i) (nth m (i : Int)) k) ((k : Int) - 1)).f)), (.int .i64 ((nth (B.slid (B.joinTo l m i) (nth m (i : Int)) k) ((k : Int) - 1)).t)), (.int .i64 ((nth (B.slid (B.joinTo l m i) (nth m (i : Int)) k) ((k : Int) - 1)).a))]) T.agg38 rfl rfl (fun _ hw => Rd.atA (Heap.rdw T.el22_encE hw (n := 1) rfl) (i := (k : Int) - 1) (by omega))) ?_
            refine qs_y rfl rfl (yv_loadA (cs := [(.int .i64 ((nth (B.slid (B.joinTo l m i) (nth m (i : Int)) k) (k : Int)).n)), (.int .i64 ((nth (B.slid (B.joinTo l m i) (nth m (i : Int)) k) (k : Int)).d)), (.int .i64 ((nth (B.slid (B.joinTo l m i) (nth m (i : Int)) k) (k : Int)).f)), (.int .i64 ((nth (B.slid (B.joinTo l m i) (nth m (i : Int)) k) (k : Int)).t)), (.int .i64 ((nth (B.slid (B.joinTo l m i) (nth m (i : Int)) k) (k : Int)).a))]) T.agg38 rfl rfl (fun _ hw => Rd.atA (Heap.rdw T.el22_encE hw (n := 1) rfl) (i := (k : Int)) (by omega))) ?_
            refine qs_nil ?_
            refine any_takesT [14] (by kernel_rfl)  _ _ _ (by kernel_rfl) ?_
            refine qs_y rfl rfl (yv_index T.sl22 rfl rfl (Heap.rdw T.el22_encE hH67 (n := 1) rfl).is (by omega)) ?_
            refine qs_nil ?_
            refine any_allY [15] (by kernel_rfl) rfl ?_
            refine ⟨⟨_, rfl, ?_⟩, trivial⟩
            ·skip
             refine op_setE (n := 1) (i := (k : Int)) (k := 0) (us := [(.int .i64 ((nth (B.slid (B.joinTo l m i) (nth m (i : Int)) k) ((k : Int) - 1)).n)), (.int .i64 ((nth (B.slid (B.joinTo l m i) (nth m (i : Int)) k) ((k : Int) - 1)).d)), (.int .i64 ((nth (B.slid (B.joinTo l m i) (nth m (i : Int)) k) ((k : Int) - 1)).f)), (.int .i64 ((nth (B.slid (B.joinTo l m i) (nth m (i : Int)) k) ((k : Int) - 1)).t)), (.int .i64 ((nth (B.slid (B.joinTo l m i) (nth m (i : Int)) k) ((k : Int) - 1)).a))]) (z := (nth (B.slid (B.joinTo l m i) (nth m (i : Int)) k) ((k : Int) - 1))) T.el22_encE rfl rfl hH67 rfl (by omega) T.sz38 rfl rfl rfl (Nat.le_of_ble_eq_true rfl) (fun w68 hH69 => ?_)
             refine ops_nil ?_
             refine ⟨(fun h => by cases h), ?_⟩
             refine any_takesT [16] (by kernel_rfl)  _ _ _ (by kernel_rfl) ?_
             refine qs_y rfl rfl (yv_index T.sl22 rfl rfl (Heap.rdw T.el22_encE hH69 (n := 1) rfl).is (by first | omega | (rw [List.length_set]; omega))) ?_
             refine qs_nil ?_
             refine any_allY [17] (by kernel_rfl) rfl ?_
             refine ⟨⟨_, rfl, ?_⟩, trivial⟩
             ·skip
              refine op_setE (n := 1) (i := (k : Int) - 1) (k := 0) (us := [(.int .i64 ((nth (B.slid (B.joinTo l m i) (nth m (i : Int)) k) (k : Int)).n)), (.int .i64 ((nth (B.slid (B.joinTo l m i) (nth m (i : Int)) k) (k : Int)).d)), (.int .i64 ((nth (B.slid (B.joinTo l m i) (nth m (i : Int)) k) (k : Int)).f)), (.int .i64 ((nth (B.slid (B.joinTo l m i) (nth m (i : Int)) k) (k : Int)).t)), (.int .i64 ((nth (B.slid (B.joinTo l m i) (nth m (i : Int)) k) (k : Int)).a))]) (z := (nth (B.slid (B.joinTo l m i) (nth m (i : Int)) k) (k : Int))) T.el22_encE rfl rfl hH69 rfl (by first | omega | (rw [List.length_set]; omega)) T.sz38 rfl rfl rfl (Nat.le_of_ble_eq_true rfl) (fun w70 hH71 => ?_)
              refine ops_nil ?_
              refine ⟨(fun h => by cases h), ?_⟩
              refine any_doneY (by kernel_rfl) ?_
              refine blk_n (thn_n (region (oM hH71 rfl rfl ?_)))
              refine ops_y hH71 rfl rfl (yv_sub rfl rfl (by omega)) ?_
              refine oA hH71 rfl rfl (ops_nil ?_)
              refine lp_n (k - 1, v_6, lo_6, hi_6) (Sub.cons (congrArg (fun z : Int => some (Value.int .i64 z)) (by omega)) (uC rfl (uC rfl (uC rfl (uC rfl (uC rfl (Sub.nil _))))))) ?_ ?_
              ·exact ⟨(Heap.recast (n := 1) hH71 rfl (by rw [show ((k : Int) - 1).toNat = k - 1 by omega]; exact hsw)), by omega, fun q h1 h2 => if e : q = k - 1 then by rw [e, show ((k - 1 : Nat) : Int) = (k : Int) - 1 by omega]; exact hbb else haft q (by omega) h2⟩
              ·first | (dsimp only; omega) | (show _ < _; omega)
           ·skip
            have hnb : ¬ B.bef (nth m (i : Int)) (nth (B.joinTo l m i) ((k : Int) - 1)) := by rw [← hat, ← B.slid_pre hk (by omega)]; assumption
            refine cond_f rfl (dF hc64) ?_
            refine exit (thn_x (lp_x (blk_here (blk_n (thn_n (region (oM hH63 rfl rfl ?_)))))))
            refine ops_y hH63 rfl rfl (yv_add rfl rfl (by omega)) ?_
            refine oA hH63 rfl rfl (ops_nil ?_)
            have hH72 := (hH63.sub (sC sR))
            refine lp_n (i + 1, v_6, lo_6, hi_6) (uC rfl (uC rfl (uC rfl (uC rfl (uC rfl (Sub.nil _)))))) ?_ ?_
            ·exact ⟨(Heap.recast (n := 0) hH72 rfl (by first | rw [B.joinTo_t (by omega) hkn] | rw [B.joinTo_f (by omega) hkf, ← B.slid_ins (B.joinTo_srt hordA hndB (by omega)) (by omega) haft (by first | exact .inl (by omega) | exact .inr hnb)])), by omega, B.all_snoc hall hst⟩
            ·first | (dsimp only; omega) | (show _ < _; omega)
         ·skip
          refine any_takes [3, 4, 5, 6, 7, 8, 9, 10, 11, 12, 13] (by kernel_rfl) hH60 _ _ _ (by kernel_rfl) ?_
          refine qs_no rfl rfl rfl (dF hc61) rfl ?_
          refine qs_no rfl rfl rfl (dF hc61) rfl ?_
          refine qs_no rfl rfl rfl (dF hc61) rfl ?_
          refine qs_no rfl rfl rfl (dF hc61) rfl ?_
          refine qs_no rfl rfl rfl (dF hc61) rfl ?_
          refine qs_no rfl rfl rfl (dF hc61) rfl ?_
          refine qs_no rfl rfl rfl (dF hc61) rfl ?_
          refine qs_no rfl rfl rfl (dF hc61) rfl ?_
          refine qs_no rfl rfl rfl (dF hc61) rfl ?_
          refine qs_no rfl rfl rfl (dF hc61) rfl ?_
          refine qs_y rfl rfl (yv_pick_f rfl (dF hc61) rfl) ?_
          refine qs_nil ?_
          refine any_done (by kernel_rfl) ?_
          refine thn_n ?_
          refine cond_f rfl rfl ?_
          refine exit (thn_x (lp_x (blk_here (blk_n (thn_n (region (oM hH60 rfl rfl ?_)))))))
          refine ops_y hH60 rfl rfl (yv_add rfl rfl (by omega)) ?_
          refine oA hH60 rfl rfl (ops_nil ?_)
          have hH73 := (hH60.sub (sC sR))
          refine lp_n (i + 1, v_6, lo_6, hi_6) (uC rfl (uC rfl (uC rfl (uC rfl (uC rfl (Sub.nil _)))))) ?_ ?_
          ·exact ⟨(Heap.recast (n := 0) hH73 rfl (by first | rw [B.joinTo_t (by omega) hkn] | rw [B.joinTo_f (by omega) hkf, ← B.slid_ins (B.joinTo_srt hordA hndB (by omega)) (by omega) haft (by first | exact .inl (by omega) | exact .inr hnb)])), by omega, B.all_snoc hall hst⟩
          ·first | (dsimp only; omega) | (show _ < _; omega)
    ·skip
     have hie : i = m.length := by omega
     have hnm := B.news_all (a := l) (b := m) hie
     have hnc : B.clash l m = false := B.clash_none fun i2 hi2 => hall i2 (by omega)
     have hjo : B.joinTo l m i = B.joinL l m := B.joinTo_all hie
     have hlo : (B.joinTo l m i).length = l.length + (B.news l m).length := by rw [hjl, hnm]
     refine cond_f rfl (dF hc30) ?_
     refine exit (thn_x (lp_x (blk_here (thn_n (seq (seq (region (oM hH29 rfl rfl ?_))))))))
     refine ops_y hH29 rfl rfl (yv_len T.sl22 rfl (Heap.rdw T.el22_encE hH29 (n := 0) rfl).is) ?_
     refine ops_y hH29 rfl rfl (yv_gtr rfl rfl) ?_
     refine ops_nil (thn_n ?_)
     by_cases hc74 : 24 < ((B.joinTo l m i).length : Int)
     ·skip
      have hbig : 24 < l.length + (B.news l m).length := by omega
      refine cond_t rfl (dT hc74) ?_
      refine seq (region ?_)
      refine ops_y hH29 rfl rfl (yv_build (v := (.agg #[(.slice none 0 0)])) (us := []) (fun a ha => by simp []) (fun w => by kernel_rfl)) ?_
      refine op_store (n := 1) (j := 0) (us := [(.slice none 0 0)]) rfl rfl hH29 rfl T.sz24 rfl rfl rfl (by rfl) (fun w75 hH76 => ?_)
      refine oA hH76 rfl rfl (ops_nil (thn_n (ret (thn_r ?_))))
      have hH77 := (hH76.sub (sC (List.Sublist.cons_cons _ (sC (sC sR)))))
      refine fin (hH77.front (n := 1) rfl) (fun w' hf => (res2 rfl (rvA (cs := [(.slice none 0 0)]) rfl T.agg24 rfl (bx_cells (Heap.bxw hf (n := 1) rfl) (k := 0) rfl)) (show RV _ _ _ (.tmp 5) _ from rfl))) (fun w' hf => ?_)
      first | (rw [B.joinR_a hcan]; exact ⟨_, rfl, Rd.nil⟩) | (rw [B.joinR_b hca hcbn]; exact ⟨_, rfl, Rd.nil⟩) | (rw [B.joinR_c hca hcb hcl]; exact ⟨_, rfl, Rd.nil⟩) | (rw [B.joinR_m hca hcb hnc hbig]; exact ⟨_, rfl, Rd.nil⟩) | (rw [B.joinR_ok hca hcb hnc hbig]; refine ⟨_, rfl, ?_⟩; show Rd encE 5 _ (B.joinL l m) _; rw [← hjo]; exact Heap.rdw T.el22_encE hf (n := 0) rfl)
     ·skip
      have hbig : ¬ 24 < l.length + (B.news l m).length := by omega
      refine cond_f rfl (dF hc74) ?_
      refine skip (thn_n (seq (region (oM hH29 rfl rfl ?_))))
      obtain ⟨_, _, hb78, _⟩ := (Heap.rdw T.el22_encE hH29 (n := 0) rfl).is
      refine ops_y hH29 rfl rfl (yv_build (v := (.agg #[v_6])) (us := [(0, v_6)]) (fun a ha => by simp [ha.ev (show ev _ (.tmp 114) = some _ from rfl)]) (fun w => by rw [hb78]; kernel_rfl)) ?_
      refine op_store (n := 1) (j := 0) (us := [v_6]) rfl rfl hH29 rfl T.sz24 rfl rfl rfl (all_one (SliceIs.one1 (Heap.rdw T.el22_encE hH29 (n := 0) rfl).is) rfl) (fun w79 hH80 => ?_)
      refine oA hH80 rfl rfl (ops_nil (thn_n (ret ?_)))
      have hH81 := (hH80.sub (List.Sublist.cons_cons _ (List.Sublist.cons_cons _ (sC (sC sR)))))
      refine fin (hH81.front (n := 2) rfl) (fun w' hf => (res2 rfl (rvA (cs := [v_6]) rfl T.agg24 rfl (bx_cells (Heap.bxw hf (n := 2) rfl) (k := 0) rfl)) (show RV _ _ _ (.tmp 5) _ from rfl))) (fun w' hf => ?_)
      first | (rw [B.joinR_a hcan]; exact ⟨_, rfl, Rd.nil⟩) | (rw [B.joinR_b hca hcbn]; exact ⟨_, rfl, Rd.nil⟩) | (rw [B.joinR_c hca hcb hcl]; exact ⟨_, rfl, Rd.nil⟩) | (rw [B.joinR_m hca hcb hnc hbig]; exact ⟨_, rfl, Rd.nil⟩) | (rw [B.joinR_ok hca hcb hnc hbig]; refine ⟨_, rfl, ?_⟩; show Rd encE 5 _ (B.joinL l m) _; rw [← hjo]; exact Heap.rdw T.el22_encE hf (n := 0) rfl)
  ·skip
   have hcbn : ¬ B.ck m = 0 := ‹_›
   refine region ?_
   refine ops_y hH12 rfl rfl (yv_loadA (cs := [u]) T.agg24 rfl rfl (fun _ hw => Heap.cellsw hw (n := 1) rfl (k := 0) rfl)) ?_
   refine op_fnV rfl rfl rfl hH12 (c22 (h1.now hH12 (n := 3) rfl) (by omega)) (fun w82 hH83 => ?_)
   refine ops_y hH83 rfl rfl (yv_neq rfl rfl) ?_
   refine ops_nil (thn_n ?_)
   have hc84 : ¬ ((B.ck m) = 0) := hcbn
   refine cond_t rfl (not_decide_t hc84) ?_
   refine seq (region ?_)
   refine ops_y hH83 rfl rfl (yv_build (v := (.agg #[(.slice none 0 0)])) (us := []) (fun a ha => by simp []) (fun w => by kernel_rfl)) ?_
   refine ops_y hH83 rfl rfl (yv_loadA (cs := [u]) T.agg24 rfl rfl (fun _ hw => Heap.cellsw hw (n := 1) rfl (k := 0) rfl)) ?_
   refine op_fnV rfl rfl rfl hH83 (c22 (h1.now hH83 (n := 3) rfl) (by omega)) (fun w85 hH86 => ?_)
   refine op_store (n := 0) (j := 0) (us := [(.slice none 0 0)]) rfl rfl hH86 rfl T.sz24 rfl rfl rfl (by rfl) (fun w87 hH88 => ?_)
   refine oA hH88 rfl rfl (ops_nil (thn_n (ret (thn_r ?_))))
   have hH89 := (hH88.sub (List.Sublist.cons_cons _ (sC (sC sR))))
   refine fin (hH89.front (n := 1) rfl) (fun w' hf => (res2 rfl (rvA (cs := [(.slice none 0 0)]) rfl T.agg24 rfl (bx_cells (Heap.bxw hf (n := 1) rfl) (k := 0) rfl)) (show RV _ _ _ (.tmp 5) _ from rfl))) (fun w' hf => ?_)
   first | (rw [B.joinR_a hcan]; exact ⟨_, rfl, Rd.nil⟩) | (rw [B.joinR_b hca hcbn]; exact ⟨_, rfl, Rd.nil⟩) | (rw [B.joinR_c hca hcb hcl]; exact ⟨_, rfl, Rd.nil⟩) | (rw [B.joinR_m hca hcb hnc hbig]; exact ⟨_, rfl, Rd.nil⟩) | (rw [B.joinR_ok hca hcb hnc hbig]; refine ⟨_, rfl, ?_⟩; show Rd encE 5 _ (B.joinL l m) _; rw [← hjo]; exact Heap.rdw T.el22_encE hf (n := 0) rfl)
 ·skip
  have hcan : ¬ B.ck l = 0 := ‹_›
  refine region ?_
  refine ops_y hH9 rfl rfl (yv_loadA (cs := [v]) T.agg24 rfl rfl (fun _ hw => Heap.cellsw hw (n := 2) rfl (k := 0) rfl)) ?_
  refine op_fnV rfl rfl rfl hH9 (c22 (h0.now hH9 (n := 3) rfl) (by omega)) (fun w90 hH91 => ?_)
  refine ops_y hH91 rfl rfl (yv_neq rfl rfl) ?_
  refine ops_nil (thn_n ?_)
  have hc92 : ¬ ((B.ck l) = 0) := hcan
  refine cond_t rfl (not_decide_t hc92) ?_
  refine seq (region ?_)
  refine ops_y hH91 rfl rfl (yv_build (v := (.agg #[(.slice none 0 0)])) (us := []) (fun a ha => by simp []) (fun w => by kernel_rfl)) ?_
  refine ops_y hH91 rfl rfl (yv_loadA (cs := [v]) T.agg24 rfl rfl (fun _ hw => Heap.cellsw hw (n := 2) rfl (k := 0) rfl)) ?_
  refine op_fnV rfl rfl rfl hH91 (c22 (h0.now hH91 (n := 3) rfl) (by omega)) (fun w93 hH94 => ?_)
  refine op_store (n := 0) (j := 0) (us := [(.slice none 0 0)]) rfl rfl hH94 rfl T.sz24 rfl rfl rfl (by rfl) (fun w95 hH96 => ?_)
  refine oA hH96 rfl rfl (ops_nil (thn_n (ret (thn_r ?_))))
  have hH97 := (hH96.sub (List.Sublist.cons_cons _ (sC (sC sR))))
  refine fin (hH97.front (n := 1) rfl) (fun w' hf => (res2 rfl (rvA (cs := [(.slice none 0 0)]) rfl T.agg24 rfl (bx_cells (Heap.bxw hf (n := 1) rfl) (k := 0) rfl)) (show RV _ _ _ (.tmp 5) _ from rfl))) (fun w' hf => ?_)
  first | (rw [B.joinR_a hcan]; exact ⟨_, rfl, Rd.nil⟩) | (rw [B.joinR_b hca hcbn]; exact ⟨_, rfl, Rd.nil⟩) | (rw [B.joinR_c hca hcb hcl]; exact ⟨_, rfl, Rd.nil⟩) | (rw [B.joinR_m hca hcb hnc hbig]; exact ⟨_, rfl, Rd.nil⟩) | (rw [B.joinR_ok hca hcb hnc hbig]; refine ⟨_, rfl, ?_⟩; show Rd encE 5 _ (B.joinL l m) _; rw [← hjo]; exact Heap.rdw T.el22_encE hf (n := 0) rfl)
end Go.Fip
