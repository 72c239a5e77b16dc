/- Joined texts: Bk, Gk, Wx, Bl, Wy, Wz. -/
import Derived.Test.YtfomadbnfcadnaaGreatDoorMG
import Derived.Test.YtfomadbnfcadnaaGreatDoorMC
import Derived.Test.YtfomadbnfcadnaaGreatDoorMB
import Derived.Lib.SplitLaws
import Derived.Lib.ParseIntBCases
import Derived.Lib.SlTrimSet
import Derived.Lib.Strings
set_option linter.unusedVariables false
set_option linter.unusedSimpArgs false
set_option linter.unusedSectionVars false
set_option linter.unnecessarySimpa false
namespace Go.Fip.B
open Go.Fip
def lns (l : List En) : List UInt8 := l.flatMap fun e => text e ++ [10]
theorem lns_succ {l : List En} {k : Nat} (h : k < l.length) : lns (l.take (k + 1)) = lns (l.take k) ++ (text (nth l (k : Int)) ++ [10]) := by
  unfold lns
  rw [List.take_succ_eq_append_getElem h, List.flatMap_append, nth_nat h]
  simp
theorem lns_all {l : List En} {k : Nat} (h : k = l.length) : lns (l.take k) = lns l := by rw [h, List.take_length]
def sumw : List UInt8 := [115, 117, 109, 32]
def fileT (l : List En) : List UInt8 := lns l ++ (sumw ++ hex (root l) ++ [10])
def fileR (l : List En) : List UInt8 × Int := if ck l = 0 then (fileT l, 0) else ([], ck l)
theorem fileR_b {l : List En} (h : ¬ ck l = 0) : fileR l = ([], ck l) := if_neg h
theorem fileR_ok {l : List En} (h : ck l = 0) : fileR l = (fileT l, 0) := if_pos h
end Go.Fip.B
namespace Go.Fip
open Go.Proofs Go.Shelf Go.RowKit Go.Sort
theorem builder_agree {b : Nat} {bs : List Value} {w w' : World} (h : Lib.IsBuilder 112 5 b b bs w) (ha : Agree b w.heap.size w w') : Lib.IsBuilder 112 5 b b bs w' := by
  have key : ∀ p, Lib.BuilderAt 112 5 b b p bs w → Lib.BuilderAt 112 5 b b p bs w' := fun p ⟨h1, v, h2, ⟨h3, h4⟩, h5⟩ => by
    refine ⟨h1, v, (ha.block b (Nat.le_refl _) (Array.getElem?_eq_some_iff.1 h2).1).trans h2, ⟨h3, ?_⟩, h5⟩
    rcases h4 with h4 | ⟨g, cap, cur, e1, e2, e3, e4⟩
    · exact .inl h4
    · exact .inr ⟨g, cap, cur, e1, e2, (ha.block g e2 (Array.getElem?_eq_some_iff.1 e3).1).trans e3, e4⟩
  rcases h with h | h
  · exact .inl (key _ h)
  · exact .inr (key _ h)
theorem builder_lt {b : Nat} {bs : List Value} {w : World} (h : Lib.IsBuilder 112 5 b b bs w) : b < w.heap.size := by
  rcases h with ⟨_, v, h2, _⟩ | ⟨_, v, h2, _⟩ <;> exact (Array.getElem?_eq_some_iff.1 h2).1
def bd (b hi : Nat) (l : List UInt8) : Item := ⟨b, hi, fun w => Lib.IsBuilder 112 5 b b (Lib.byteCells l) w⟩
theorem builder_new {b : Nat} {w : World} (h : Bx b 112 [.pointer none, .slice none 0 0] w) : Lib.IsBuilder 112 5 b b (Lib.byteCells []) w :=
  .inl ⟨Nat.le_refl _, _, h, ⟨rfl, .inl ⟨rfl, rfl⟩⟩, by simp [Value.ownBlock]⟩
theorem Heap.toBd {b : Nat} {H : List Item} {w : World} (hH : Heap (bx b 112 [.pointer none, .slice none 0 0] :: H) w) : Heap (bd b (b + 1) [] :: H) w := by
  have hok := hH.okAt (n := 0) rfl
  exact hH.swapItem (n := 0) rfl ⟨hok.1, hok.2.1, fun w' hw => builder_new (hok.2.2 w' hw)⟩
theorem bd_after {b hi : Nat} {l l' : List UInt8} {wB w w' : World} (hH : Heap [bd b hi l, base wB] w) (hb : Below b w w') (h : Lib.IsBuilder 112 5 b b (Lib.byteCells l') w') : Heap [bd b w'.heap.size l', base wB] w' := by
  have h0 := hH.okAt (n := 0) rfl
  have h1 := hH.okAt (n := 1) rfl
  have hlt := builder_lt h
  have hnow : Lib.IsBuilder 112 5 b b (Lib.byteCells l) w := h0.now
  have hlt0 := builder_lt hnow
  have hap : (bd b hi l).apart (base wB) := (List.pairwise_cons.1 hH.apart).1 _ (List.mem_singleton.2 rfl)
  have hbB : wB.heap.size ≤ b := by
    rcases hap with h2 | h2
    · have h3 : hi ≤ 0 := h2
      have h4 : b ≤ hi := h0.1
      have : (bd b hi l).lo = b := rfl
      have hb0 : b = 0 := by omega
      -- the builder's own block lies in its item
      have h5 := h0.2.2
      exfalso
      subst hb0
      have hhi : hi = 0 := by omega
      subst hhi
      -- an empty item says so of any world: of one with nothing in it
      have h6 : Lib.IsBuilder 112 5 0 0 (Lib.byteCells l) { w with heap := Array.replicate w.heap.size (.pending #[] 0) } := h5 _ ⟨rfl, rfl, rfl, by simp, fun k a c => absurd c (Nat.not_lt_zero k)⟩
      rcases h6 with ⟨_, v, h7, _⟩ | ⟨_, v, h7, _⟩ <;> simp [Array.getElem?_replicate] at h7
    · exact h2
  refine ⟨fun i hi' => ?_, ?_⟩
  · rcases List.mem_cons.1 hi' with rfl | hi'
    · exact ⟨Nat.le_of_lt hlt, Nat.le_refl _, fun w2 ha => builder_agree h ha⟩
    · rw [List.mem_singleton.1 hi']
      exact h1.agree (Agree.of_below hb hbB)
  · refine List.Pairwise.cons (fun j hj => ?_) (List.Pairwise.cons (fun j hj => absurd hj (List.not_mem_nil)) List.Pairwise.nil)
    rw [List.mem_singleton.1 hj]
    exact .inr hbB
theorem bd_le {b hi : Nat} {l : List UInt8} {wB w : World} (hH : Heap [bd b hi l, base wB] w) : b ≤ w.heap.size := Nat.le_trans (hH.okAt (n := 0) rfl).1 (hH.okAt (n := 0) rfl).2.1
theorem bd_now {b hi : Nat} {l : List UInt8} {wB w : World} (hH : Heap [bd b hi l, base wB] w) : Lib.IsBuilder 112 5 b b (Lib.byteCells l) w := (hH.okAt (n := 0) rfl).now
theorem bd_base {b hi : Nat} {l : List UInt8} {wB w w' : World} (hH : Heap [bd b hi l, base wB] w) (hb : Below b w w') (hs : w.heap.size ≤ w'.heap.size) : Heap [base wB] w' := by
  have h1 := hH.okAt (n := 1) rfl
  have h2 := bd_after hH (Below.refl b w) (bd_now hH)
  have hap : (bd b w.heap.size l).apart (base wB) := (List.pairwise_cons.1 h2.apart).1 _ (List.mem_singleton.2 rfl)
  have hlt := builder_lt (bd_now hH)
  have hbB : wB.heap.size ≤ b := by
    rcases hap with h3 | h3
    · have h4 : w.heap.size ≤ 0 := h3
      omega
    · exact h3
  refine ⟨fun i hi' => ?_, List.pairwise_singleton _ _⟩
  rw [List.mem_singleton.1 hi']
  exact h1.agree (Agree.of_below hb hbB)
theorem byteCells_app (l s : List UInt8) : Lib.byteCells (l ++ s) = Lib.byteCells l ++ Lib.strCells ⟨s.toArray⟩ := by
  unfold Lib.byteCells Lib.strCells
  simp
theorem byteCells_len (l : List UInt8) : (Lib.byteCells l).length = l.length := by unfold Lib.byteCells; simp
theorem c85 {b hi : Nat} {l s : List UInt8} {wB w : World} (hH : Heap [bd b hi l, base wB] w) (hl : l.length + s.length ≤ 1000000) :
    CallsIn Fence.wide 0 Tryz.prog 85 #[.pointer (some ⟨b, 0, none⟩), str s] w fun e w' => e = .returned (.tuple #[.int .i64 s.length, .nilIface]) ∧ Heap [bd b w'.heap.size (l ++ s), base wB] w' := by
  refine CallsIn.mono (callsIn_wide.2 (Any.Builder_WriteString Tryz.lays166 Tryz.Builder_Extra_156 b b (Lib.byteCells l) ⟨s.toArray⟩ w (bd_now hH) (by rw [byteCells_len, size_str]; omega) (bd_le hH))) ?_
  rintro e w' ⟨he, hb, hbel⟩
  refine ⟨by rw [he, size_str], bd_after hH hbel (.inr ?_)⟩
  rw [byteCells_app]; exact hb
theorem op_bwrite {r : Option Nat} {N : Nat} {ds : List Deferred} {env : Env} {w wB : World} {Q : Post} {all : Array Oper} {rest : List Oper} {d : Nat} {c x y : Operand} {ats : Array TypeId} {ty : TypeId} {pos : String} {after : Array Edge} {b hi : Nat} {l s : List UInt8}
    (hf : ev env c = some (.func (.func 85) #[] #[])) (hx : ev env x = some (.pointer (some ⟨b, 0, none⟩))) (hy : ev env y = some (str s)) (hd : Nat.blt d N = true) (hH : Heap [bd b hi l, base wB] w) (hl : l.length + s.length ≤ 1000000)
    (h : ∀ w' hi', Heap [bd b hi' (l ++ s), base wB] w' → Ops r Tryz.prog N all rest ds ((d, .tuple #[.int .i64 s.length, .nilIface]) :: env) w' Q) :
    Ops r Tryz.prog N all (⟨some d, .call ⟨.value c, #[x, y], ats⟩, ty, pos, after, none⟩ :: rest) ds env w Q := by
  intro a ha
  refine wpListIn_plain rfl fun K hK => ⟨fun f _ => Fr_fn r f, ?_⟩
  rw [semAt_Fr r _ _ (fun c hc => by cases hc)]
  have hrun : (execOp a.eval ⟨some d, .call ⟨.value c, #[x, y], ats⟩, ty, pos, after, none⟩).run Tryz.prog w = .ok (.enter 85 #[.pointer (some ⟨b, 0, none⟩), str s]) w := by
    have e1 : (#[x, y] : Array Operand).map a.eval = #[.pointer (some ⟨b, 0, none⟩), str s] := by simp [ha.ev hx, ha.ev hy]
    simp only [execOp, resolve, e1, ha.ev hf, Deferred.ofValue, Sem.run_bind, Sem.run_pure, Result.andThen, invoke]
    exact ent Tryz.func85 (by kernel_rfl) rfl _ w
  rw [hrun]
  have hc : CallsIn (Fr r) 0 Tryz.prog 85 #[.pointer (some ⟨b, 0, none⟩), str s] w fun e w' => e = .returned (.tuple #[.int .i64 s.length, .nilIface]) ∧ Heap [bd b w'.heap.size (l ++ s), base wB] w' := by
    cases r with
    | none => exact c85 hH hl
    | some l => exact c85 hH hl
  refine ⟨fun h => by simp [Fr_depth] at h, CallsIn.mono hc ?_⟩
  rintro e w' ⟨rfl, hw⟩
  exact hK _ _ (h _ _ hw _ (ha.put (by simpa [Nat.blt_eq] using hd) _))
theorem c87 {b hi : Nat} {l : List UInt8} {wB w : World} (hH : Heap [bd b hi l, base wB] w) :
    CallsIn Fence.wide 0 Tryz.prog 87 #[.pointer (some ⟨b, 0, none⟩)] w fun e w' => e = .returned (str l) ∧ Heap [base wB] w' := by
  refine CallsIn.mono (callsIn_wide.2 (Tryz.Builder_String_any b b l w (bd_now hH) (bd_le hH))) ?_
  rintro e w' ⟨he, hbel⟩
  exact ⟨he, bd_base hH hbel hbel.size⟩
theorem op_bstring {r : Option Nat} {N : Nat} {ds : List Deferred} {env : Env} {w wB : World} {Q : Post} {all : Array Oper} {rest : List Oper} {d : Nat} {c x : Operand} {ats : Array TypeId} {ty : TypeId} {pos : String} {after : Array Edge} {b hi : Nat} {l : List UInt8}
    (hf : ev env c = some (.func (.func 87) #[] #[])) (hx : ev env x = some (.pointer (some ⟨b, 0, none⟩))) (hd : Nat.blt d N = true) (hH : Heap [bd b hi l, base wB] w)
    (h : ∀ w', Heap [base wB] w' → Ops r Tryz.prog N all rest ds ((d, str l) :: env) w' Q) :
    Ops r Tryz.prog N all (⟨some d, .call ⟨.value c, #[x], ats⟩, ty, pos, after, none⟩ :: rest) ds env w Q := by
  intro a ha
  refine wpListIn_plain rfl fun K hK => ⟨fun f _ => Fr_fn r f, ?_⟩
  rw [semAt_Fr r _ _ (fun c hc => by cases hc)]
  have hrun : (execOp a.eval ⟨some d, .call ⟨.value c, #[x], ats⟩, ty, pos, after, none⟩).run Tryz.prog w = .ok (.enter 87 #[.pointer (some ⟨b, 0, none⟩)]) w := by
    have e1 : (#[x] : Array Operand).map a.eval = #[.pointer (some ⟨b, 0, none⟩)] := by simp [ha.ev hx]
    simp only [execOp, resolve, e1, ha.ev hf, Deferred.ofValue, Sem.run_bind, Sem.run_pure, Result.andThen, invoke]
    exact ent Tryz.func87 (by kernel_rfl) rfl _ w
  rw [hrun]
  have hc : CallsIn (Fr r) 0 Tryz.prog 87 #[.pointer (some ⟨b, 0, none⟩)] w fun e w' => e = .returned (str l) ∧ Heap [base wB] w' := by
    cases r with
    | none => exact c87 hH
    | some l => exact c87 hH
  refine ⟨fun h => by simp [Fr_depth] at h, CallsIn.mono hc ?_⟩
  rintro e w' ⟨rfl, hw⟩
  exact hK _ _ (h _ hw _ (ha.put (by simpa [Nat.blt_eq] using hd) _))
end Go.Fip
namespace Go.Fip
open Go.Proofs Go.RowKit
theorem B.lns_len {l : List En} (h : B.InR l) : ∀ {k : Nat}, k ≤ l.length → (B.lns (l.take k)).length ≤ 110 * k
 | 0, _ => by simp [B.lns]
 | k + 1, hk => by
  have ih := B.lns_len h (k := k) (by omega)
  have ht := B.text_len (h k (by omega))
  rw [B.lns_succ (by omega), List.length_append, List.length_append]
  simp only [List.length_cons, List.length_nil]
  omega
theorem tupS {p : List UInt8 × Int} {a : List UInt8} {b : Int} {k : IntKind} (h : p = (a, b)) : Value.tuple #[str a, .int k b] = .tuple #[str p.1, .int k p.2] := by subst h; rfl
theorem c51 {v : Value} {l : List En} {w : World} (h0 : Rd encE 5 v l w) (hn : l.length ≤ 24) (hin : B.InR l)  :
  Fn Tryz.prog 51 [(.agg #[v])].toArray w (fun u _ => u = str (B.fileT l)) := by
 refine fn_of' (args := [(.agg #[v])]) Tryz.func51 rfl (ent Tryz.func51 (by kernel_rfl) rfl) rfl rfl (fun hH => ?_)
 refine seq (region ?_)
 refine op_box (us := [v]) rfl rfl rfl hH (fun b1 w2 hH3 => ?_)
 refine oA hH3 rfl rfl (ops_nil (thn_n (seq (region (oA hH3 rfl rfl (ops_nil (thn_n (seq (seq ?_)))))))))
 refine region (oA hH3 rfl rfl (ops_nil (thn_n (block ?_))))
 refine loop (S := Nat) (fun k => [(3, (str (B.lns (l.take k)))), (4, (.int .i64 (k : Int))), (1, (.pointer (some ⟨b1, 0, none⟩))), (2, (str ([] : List UInt8)))]) (fun k w1 => Heap [bx b1 24 [v], base w] w1 ∧ k ≤ l.length) (fun k => l.length - k) (0) (uC rfl (uC rfl (uC rfl (uC rfl (Sub.nil _))))) ?_ ?_
 ·exact ⟨hH3, by omega⟩
 ·rintro k w4 ⟨hH5, hk⟩
  show Holds _ _ _ _ _ [(3, (str (B.lns (l.take k)))), (4, (.int .i64 (k : Int))), (1, (.pointer (some ⟨b1, 0, none⟩))), (2, (str ([] : List UInt8)))] _ _
  refine seq (seq (region (oM hH5 rfl rfl ?_)))
  refine ops_y hH5 rfl rfl (yv_field T.f24_0 rfl) ?_
  refine ops_y hH5 rfl rfl (yv_load T.one22 rfl (fun _ hw => Heap.cellw hw (n := 0) rfl rfl)) ?_
  refine ops_y hH5 rfl rfl (yv_len T.sl22 rfl (h0.now hH5 (n := 1) rfl).is) ?_
  refine ops_y hH5 rfl rfl (yv_lss rfl rfl) ?_
  refine ops_nil (thn_n ?_)
  by_cases hc6 : (k : Int) < (l.length : Int)
  ·skip
   refine cond_t rfl (dT hc6) ?_
   refine skip (thn_n (seq (block ?_)))
   have hek : B.isEn (nth l (k : Int)) := hin k (by omega)
   have htl := B.text_len hek
   have hll := B.lns_len hin (k := k) (by omega)
   refine region (oM hH5 rfl rfl ?_)
   refine ops_y hH5 rfl rfl (yv_field T.f24_0 rfl) ?_
   refine ops_y hH5 rfl rfl (yv_load T.one22 rfl (fun _ hw => Heap.cellw hw (n := 0) rfl rfl)) ?_
   refine oM hH5 rfl rfl ?_
   refine ops_y hH5 rfl rfl (yv_index T.sl22 rfl rfl (h0.now hH5 (n := 1) rfl).is (by omega)) ?_
   refine ops_y hH5 rfl rfl (yv_loadA (cs := [(.int .i64 ((nth l (k : Int)).n)), (.int .i64 ((nth l (k : Int)).d)), (.int .i64 ((nth l (k : Int)).f)), (.int .i64 ((nth l (k : Int)).t)), (.int .i64 ((nth l (k : Int)).a))]) T.agg38 rfl rfl (fun _ hw => Rd.atA (h0.now hw (n := 1) rfl) (i := (k : Int)) (by omega))) ?_
   refine op_fnV rfl rfl rfl hH5 (c99 (e := (nth l (k : Int))) (by assumption)) (fun w7 hH8 => ?_)
   refine ops_y hH8 rfl rfl (yv_cat rfl rfl (by first | omega | (simp only [List.length_append, List.length_cons, List.length_nil]; omega))) ?_
   refine ops_y hH8 rfl rfl (yv_cat rfl rfl (by rw [List.length_append]; simp only [List.length_cons, List.length_nil]; omega)) ?_
   refine oA hH8 rfl rfl (ops_nil (blk_n (thn_n (region (oM hH8 rfl rfl ?_)))))
   refine ops_y hH8 rfl rfl (yv_add rfl rfl (by omega)) ?_
   refine oA hH8 rfl rfl (ops_nil ?_)
   refine lp_n (k + 1) (Sub.cons (congrArg (fun z => some (str z)) (by rw [B.lns_succ (by omega)]; simp)) (uC rfl (uC rfl (uC rfl (Sub.nil _))))) ?_ ?_
   ·exact ⟨hH8, by omega⟩
   ·first | (dsimp only; omega) | (show _ < _; omega)
  ·skip
   refine cond_f rfl (dF hc6) ?_
   refine exit (thn_x (lp_x (blk_here (thn_n (seq ?_)))))
   have hll := B.lns_len hin (k := k) (by omega)
   have hhx := B.hex_length (B.root l)
   refine region (oM hH5 rfl rfl ?_)
   refine ops_y hH5 rfl rfl (yv_cat rfl rfl (by first | omega | (simp only [List.length_append, List.length_cons, List.length_nil]; omega))) ?_
   refine ops_y hH5 rfl rfl (yv_field T.f24_0 rfl) ?_
   refine ops_y hH5 rfl rfl (yv_load T.one22 rfl (fun _ hw => Heap.cellw hw (n := 0) rfl rfl)) ?_
   refine op_fnV rfl rfl rfl hH5 (c44 (h0.now hH5 (n := 1) rfl) (by omega) hin) (fun w9 hH10 => ?_)
   refine op_fnV rfl rfl rfl hH10 (c55 ) (fun w11 hH12 => ?_)
   refine ops_y hH12 rfl rfl (yv_cat rfl rfl (by rw [List.length_append, hhx]; simp only [List.length_cons, List.length_nil]; omega)) ?_
   refine ops_y hH12 rfl rfl (yv_cat rfl rfl (by rw [List.length_append, List.length_append, hhx]; simp only [List.length_cons, List.length_nil]; omega)) ?_
   refine oA hH12 rfl rfl (ops_nil (thn_n (ret ?_)))
   have hH13 := (hH12.sub (sC sR))
   refine fin hH13 (fun w' hf => (res1 rfl (show RV _ _ _ (.tmp 2) _ from rfl))) (fun w' hf => ?_)
   show str _ = str _; refine congrArg str ?_; rw [B.lns_all (show k = l.length by omega)]; unfold B.fileT B.sumw; simp
theorem c38 {v : Value} {l : List En} {w : World} (h0 : Rd encE 5 v l w) (hn : l.length ≤ 1000000) (hG : Gl w)  :
  Fn Tryz.prog 38 [(.agg #[v])].toArray w (fun u _ => u = .tuple #[str (B.fileR l).1, .int .i64 (B.fileR l).2]) := by
 refine fn_of' (args := [(.agg #[v])]) Tryz.func38 rfl (ent Tryz.func38 (by kernel_rfl) rfl) rfl rfl (fun hH => ?_)
 refine seq (region ?_)
 refine op_box (us := [v]) rfl rfl rfl hH (fun b1 w2 hH3 => ?_)
 refine oA hH3 rfl rfl (oA hH3 rfl rfl (ops_nil (thn_n (seq ?_))))
 by_cases hc4 : B.ck l = 0
 ·skip
  have hc0 : B.ck l = 0 := ‹_›
  have hbk := B.ck_iff.1 hc0
  have hin0 := hbk.2.1
  have hl24 := hbk.1
  refine region ?_
  refine ops_y hH3 rfl rfl (yv_loadA (cs := [v]) T.agg24 rfl rfl (fun _ hw => Heap.cellsw hw (n := 0) rfl (k := 0) rfl)) ?_
  refine op_fn rfl rfl rfl hH3 (c56g (h0.now hH3 (n := 1) rfl) (by omega) (hG.now hH3 (n := 1) rfl) hc0) (fun u7 w5 lo8 hi9 hH6 hv10 => ?_)
  obtain ⟨dbD12, hu, hrowD12⟩ := hv10
  subst hu
  obtain ⟨mbD12, esD12, clD12, mD12, hentsD12, hwholeD12, hH11⟩ := Heap.fixMap hH6 (n := 0) rfl (fun w' h => by obtain ⟨rb', e, h⟩ := h; cases e; exact h)
  refine oM hH11 rfl rfl (ops_y hH11 rfl rfl (yv_extract rfl rfl) (ops_y hH11 rfl rfl (yv_extract rfl rfl) (oA hH11 rfl rfl (oA hH11 rfl rfl (ops_nil (thn_n (seq (seq (region ?_)))))))))
  refine oM hH11 rfl rfl ?_
  refine ops_y hH11 rfl rfl (yv_neq rfl rfl) ?_
  refine ops_nil (thn_n ?_)
  refine cond_f rfl rfl ?_
  refine skip (thn_n (seq (region ?_)))
  have hd1 : DeskK dbD12 mbD12 v l w5 := ⟨(show RowAt 138 dbD12 v mbD12 esD12 clD12 _ from hH11.get (n := 0) rfl).1, (h0.now hH11 (n := 2) rfl)⟩
  have hm1 : Mp B.kvS B.vvW mbD12 mD12 w5 := hentsD12.mp (show RowAt 138 dbD12 v mbD12 esD12 clD12 _ from hH11.get (n := 0) rfl).2
  have hb1 : Bx b1 24 [v] w5 := Heap.bxw hH11 (n := 1) rfl
  have hb13 : Below w.heap.size w w5 := hH11.get (n := 2) rfl
  have rv14 := h0.below hb13
  have hG15 := hG.below hb13
  have hH16 := Heap.start w5
  refine op_alloc (z := (.agg #[(.pointer none), (.slice none 0 0)])) (us := [(.pointer none), (.slice none 0 0)]) (fun _ => by kernel_rfl) rfl rfl hH16 (fun b17 w18 hH19 => ?_)
  have hH20 := Heap.toBd hH19
  refine ops_nil (thn_n (seq (seq (region ?_))))
  refine ops_y hH20 rfl rfl (yv_field T.f24_0 rfl) ?_
  refine ops_y hH20 rfl rfl (yv_load T.one22 rfl (fun _ hw => bx_cell (hb1.now hw (n := 1) rfl) rfl)) ?_
  refine ops_y hH20 rfl rfl (yv_len T.sl22 rfl (rv14.now hH20 (n := 1) rfl).is) ?_
  refine oM hH20 rfl rfl (ops_nil (thn_n (block ?_)))
  refine loop (S := Nat × Nat) (fun (k, hb) => [(20, (.int .i64 (k : Int))), (2, (str ([] : List UInt8))), (3, (.int .i64 0)), (4, (.pointer (some ⟨dbD12, 0, none⟩))), (6, (.pointer (some ⟨b17, 0, none⟩))), (18, v), (19, (.int .i64 (l.length : Int)))]) (fun (k, hb) w1 => Heap [bd b17 hb (B.lns (l.take k)), base w5] w1 ∧ k ≤ l.length) (fun (k, hb) => l.length - k) (0, (b17 + 1)) (uC rfl (uC rfl (uC rfl (uC rfl (uC rfl (uC rfl (uC rfl (Sub.nil _)))))))) ?_ ?_
  ·exact ⟨hH20, by omega⟩
  ·rintro ⟨k, hb⟩ w21 ⟨hH22, hk⟩
   show Holds _ _ _ _ _ [(20, (.int .i64 (k : Int))), (2, (str ([] : List UInt8))), (3, (.int .i64 0)), (4, (.pointer (some ⟨dbD12, 0, none⟩))), (6, (.pointer (some ⟨b17, 0, none⟩))), (18, v), (19, (.int .i64 (l.length : Int)))] _ _
   refine seq (region ?_)
   refine ops_y hH22 rfl rfl (yv_lss rfl rfl) ?_
   refine ops_nil (thn_n (seq ?_))
   by_cases hc23 : (k : Int) < (l.length : Int)
   ·skip
    refine cond_t rfl (dT hc23) ?_
    refine skip (thn_n (seq (block (seq ?_))))
    have hin := hin0
    have hek : B.isEn (nth l (k : Int)) := hin k (by omega)
    have htl := B.text_len hek
    have hll := B.lns_len hin (k := k) (by omega)
    refine region ?_
    refine ops_y hH22 rfl rfl (yv_index T.sl22 rfl rfl (rv14.now hH22 (n := 1) rfl).is (by omega)) ?_
    refine ops_y hH22 rfl rfl (yv_loadA (cs := [(.int .i64 ((nth l (k : Int)).n)), (.int .i64 ((nth l (k : Int)).d)), (.int .i64 ((nth l (k : Int)).f)), (.int .i64 ((nth l (k : Int)).t)), (.int .i64 ((nth l (k : Int)).a))]) T.agg38 rfl rfl (fun _ hw => Rd.atA (rv14.now hw (n := 1) rfl) (i := (k : Int)) (by omega))) ?_
    refine op_alloc (z := (.agg #[(.int .i64 0), (.int .i64 0), (.int .i64 0), (.int .i64 0), (.int .i64 0)])) (us := [(.int .i64 0), (.int .i64 0), (.int .i64 0), (.int .i64 0), (.int .i64 0)]) (fun _ => by kernel_rfl) rfl rfl hH22 (fun b24 w25 hH26 => ?_)
    refine op_store (n := 0) (j := 0) (us := [(.int .i64 ((nth l (k : Int)).n)), (.int .i64 ((nth l (k : Int)).d)), (.int .i64 ((nth l (k : Int)).f)), (.int .i64 ((nth l (k : Int)).t)), (.int .i64 ((nth l (k : Int)).a))]) rfl rfl hH26 rfl T.sz38 rfl rfl rfl (by rfl) (fun w27 hH28 => ?_)
    refine ops_nil (thn_n (region ?_))
    refine ops_y hH28 rfl rfl (yv_loadA (cs := [(.int .i64 ((nth l (k : Int)).n)), (.int .i64 ((nth l (k : Int)).d)), (.int .i64 ((nth l (k : Int)).f)), (.int .i64 ((nth l (k : Int)).t)), (.int .i64 ((nth l (k : Int)).a))]) T.agg38 rfl rfl (fun _ hw => Heap.cellsw hw (n := 0) rfl (k := 0) rfl)) ?_
    refine op_fnV rfl rfl rfl hH28 (c73 (e := (nth l (k : Int))) (hG15.now hH28 (n := 2) rfl) hek) (fun w29 hH30 => ?_)
    refine ops_y hH30 rfl rfl (yv_cat rfl rfl (by first | omega | (simp only [List.length_append, List.length_cons, List.length_nil]; omega))) ?_
    have hH31 := (hH30.sub (sC sR))
    refine op_bwrite rfl rfl rfl rfl hH31 (by first | (rw [List.length_append]; simp only [List.length_cons, List.length_nil]; omega) | (rw [List.length_append, List.length_append, hhx]; simp only [List.length_cons, List.length_nil]; omega)) (fun w32 hi33 hH34 => ?_)
    have hH35 : Heap [bd b17 hi33 (B.lns (l.take (k + 1))), base w5] w32 := by first | exact hH34 | (rw [B.lns_succ (by omega)]; exact hH34)
    refine ops_nil (blk_n (thn_n (region ?_)))
    refine ops_y hH35 rfl rfl (yv_add rfl rfl (by omega)) ?_
    refine oM hH35 rfl rfl (ops_nil ?_)
    refine lp_n (k + 1, hi33) (uC rfl (uC rfl (uC rfl (uC rfl (uC rfl (uC rfl (uC rfl (Sub.nil _)))))))) ?_ ?_
    ·exact ⟨hH35, by omega⟩
    ·first | (dsimp only; omega) | (show _ < _; omega)
   ·skip
    refine cond_f rfl (dF hc23) ?_
    refine exit (thn_x (lp_x (blk_here (thn_n (seq ?_)))))
    have hll := B.lns_len hin0 (k := k) (by omega)
    have hhx := B.hex_length (B.root l)
    have hkl := B.lns_all (show k = l.length by omega)
    refine region (oM hH22 rfl rfl ?_)
    refine op_fnV rfl rfl rfl hH22 (c70 ⟨((hd1.now hH22 (n := 1) rfl).1), (rv14.now hH22 (n := 1) rfl)⟩ ((hm1.now hH22 (n := 1) rfl)) hwholeD12) (fun w36 hH37 => ?_)
    refine op_fnV rfl rfl rfl hH37 (c86 (x := B.root l) (hG15.now hH37 (n := 1) rfl)) (fun w38 hH39 => ?_)
    refine ops_y hH39 rfl rfl (yv_cat rfl rfl (by first | omega | (simp only [List.length_append, List.length_cons, List.length_nil]; omega))) ?_
    refine ops_y hH39 rfl rfl (yv_cat rfl rfl (by rw [List.length_append, hhx]; simp only [List.length_cons, List.length_nil]; omega)) ?_
    refine op_bwrite rfl rfl rfl rfl hH39 (by first | (rw [List.length_append]; simp only [List.length_cons, List.length_nil]; omega) | (rw [List.length_append, List.length_append, hhx]; simp only [List.length_cons, List.length_nil]; omega)) (fun w40 hi41 hH42 => ?_)
    have hH43 : Heap [bd b17 hi41 (B.fileT l), base w5] w40 := by first | exact hH42 | (unfold B.fileT B.sumw; rw [← hkl]; exact hH42)
    refine ops_nil (thn_n (seq (region ?_)))
    refine op_bstring rfl rfl rfl hH43 (fun w44 hH45 => ?_)
    refine oA hH45 rfl rfl (oA hH45 rfl rfl (ops_nil (thn_n (ret ?_))))
    refine fin (Heap.unbase hH45 hb13) (fun w' hf => (res2 rfl (show RV _ _ _ (.tmp 2) _ from rfl) (show RV _ _ _ (.tmp 3) _ from rfl))) (fun w' hf => ?_)
    first | exact tupS (B.fileR_b hcn) | exact tupS (B.fileR_ok hc0)
 ·skip
  have hcn : ¬ B.ck l = 0 := ‹_›
  refine region ?_
  refine ops_y hH3 rfl rfl (yv_loadA (cs := [v]) T.agg24 rfl rfl (fun _ hw => Heap.cellsw hw (n := 0) rfl (k := 0) rfl)) ?_
  refine op_fnV rfl rfl rfl hH3 (c56b (h0.now hH3 (n := 1) rfl) (by omega) hcn) (fun w46 hH47 => ?_)
  refine oM hH47 rfl rfl (ops_y hH47 rfl rfl (yv_extract rfl rfl) (ops_y hH47 rfl rfl (yv_extract rfl rfl) (oA hH47 rfl rfl (oA hH47 rfl rfl (ops_nil (thn_n (seq (seq (region ?_)))))))))
  refine oM hH47 rfl rfl ?_
  refine ops_y hH47 rfl rfl (yv_neq rfl rfl) ?_
  refine ops_nil (thn_n ?_)
  have hc48 : ¬ ((B.ck l) = 0) := hcn
  refine cond_t rfl (not_decide_t hc48) ?_
  refine seq (region (oM hH47 rfl rfl (oA hH47 rfl rfl (oA hH47 rfl rfl (ops_nil (thn_n (ret (thn_r ?_))))))))
  have hH49 := (hH47.sub (sC sR))
  refine fin hH49 (fun w' hf => (res2 rfl (show RV _ _ _ (.tmp 2) _ from rfl) (show RV _ _ _ (.tmp 3) _ from rfl))) (fun w' hf => ?_)
  first | exact tupS (B.fileR_b hcn) | exact tupS (B.fileR_ok hc0)
end Go.Fip
namespace Go.Fip.B
open Go.Fip
def sp (c : UInt8) : List UInt8 → List (List UInt8)
  | [] => [[]]
  | x :: l => if x = c then [] :: sp c l else (x :: (sp c l).headD []) :: (sp c l).tail
theorem sp_ne (c : UInt8) : ∀ l, sp c l ≠ []
  | [] => by simp [sp]
  | x :: l => by unfold sp; split <;> simp
theorem sp_len_pos (c : UInt8) (l : List UInt8) : 1 ≤ (sp c l).length := List.length_pos_iff.2 (sp_ne c l)
theorem sp_head (c : UInt8) (l : List UInt8) : (sp c l).headD [] :: (sp c l).tail = sp c l := by
  cases h : sp c l with
  | nil => exact absurd h (sp_ne c l)
  | cons p ps => rfl
theorem sp_len (c : UInt8) : ∀ l : List UInt8, (sp c l).length ≤ l.length + 1
  | [] => by simp [sp]
  | x :: l => by
    have ih := sp_len c l
    have hp := sp_len_pos c l
    unfold sp
    split
    · simp; omega
    · simp [List.length_tail]; omega
theorem sp_mem_len (c : UInt8) : ∀ (l : List UInt8), ∀ p ∈ sp c l, p.length ≤ l.length
  | [], p, h => by simp [sp] at h; subst h; simp
  | x :: l, p, h => by
    have ih := sp_mem_len c l
    unfold sp at h
    split at h
    · rcases List.mem_cons.1 h with rfl | h
      · simp
      · have := ih p h; simp; omega
    · rcases List.mem_cons.1 h with rfl | h
      · have : ((sp c l).headD []).length ≤ l.length := by
          have hh := sp_head c l
          exact ih _ (by rw [← hh]; exact List.mem_cons_self ..)
        show ((sp c l).headD []).length + 1 ≤ l.length + 1; omega
      · have := ih p (List.mem_of_mem_tail h); simp; omega
theorem count_pos_of (c : UInt8) (l : List UInt8) (h : Lib.count l [c] ≠ 0) : ∃ j : Nat, Lib.index l [c] = j := by
  have hge := Lib.index_ge l [c]
  by_cases hm : Lib.index l [c] = -1
  · exact absurd (Lib.count_miss hm) h
  · exact ⟨(Lib.index l [c]).toNat, by omega⟩
theorem parts_sp (c : UInt8) : ∀ l : List UInt8, Lib.splitK [c] 0 (Lib.count l [c]) l = sp c l
  | [] => by rw [Lib.count_miss (by simp [Lib.index])]; rfl
  | x :: l => by
    have ih := parts_sp c l
    by_cases h : x = c
    · subst h
      have hix : Lib.index (x :: l) [x] = 0 := by rw [Lib.index]; simp [List.isPrefixOf]
      rw [Lib.count_cons_eq, Nat.add_comm]
      show (if Lib.index (x :: l) [x] == -1 then _ else _) = _
      rw [hix]
      unfold sp
      rw [if_pos rfl]
      simp [ih]
    · have hp : ([c] : List UInt8).isPrefixOf (x :: l) = false := by simp [List.isPrefixOf, Ne.symm h]
      have hix : Lib.index (x :: l) [c] = if Lib.index l [c] == -1 then -1 else Lib.index l [c] + 1 := by rw [Lib.index, hp]; simp
      rw [Lib.count_cons_ne x c l h]
      unfold sp
      rw [if_neg h, ← ih]
      cases hk : Lib.count l [c] with
      | zero => rfl
      | succ k =>
        obtain ⟨j, hj⟩ := count_pos_of c l (by omega)
        have hne : ¬ ((j : Int) == -1) = true := fun e => by have := beq_iff_eq.1 e; omega
        have hix' : Lib.index (x :: l) [c] = ((j + 1 : Nat) : Int) := by rw [hix, hj, if_neg hne]; omega
        have hne' : ¬ (((j + 1 : Nat) : Int) == -1) = true := fun e => by have := beq_iff_eq.1 e; omega
        show (if Lib.index (x :: l) [c] == -1 then _ else _) = (x :: (if Lib.index l [c] == -1 then _ else _ : List (List UInt8)).headD []) :: (if Lib.index l [c] == -1 then _ else _ : List (List UInt8)).tail
        rw [hix', hj, if_neg hne, if_neg hne']
        simp
instance {b : UInt8} : Decidable (isD b) := by unfold isD; infer_instance
instance {l : List UInt8} : Decidable (Dec l) := by unfold Dec; infer_instance
def Num (l : List UInt8) : Prop := Dec l ∧ l.length ≤ 18
instance {l : List UInt8} : Decidable (Num l) := by unfold Num; infer_instance
def valF (a : Nat) (l : List UInt8) : Nat := l.foldl (fun n b => 10 * n + (b.toNat - 48)) a
theorem parse_digits : ∀ (l : List UInt8) (a k : Nat), (∀ b ∈ l, isD b) → a < 10 ^ k → k + l.length ≤ 18 → Lib.parseUintM 18446744073709551615 a l = .ok (valF a l)
  | [], a, k, _, _, _ => rfl
  | c :: r, a, k, hd, ha, hk => by
    have hc := hd c (List.mem_cons_self ..)
    have hk' : k + 1 + r.length ≤ 18 := by simp at hk; omega
    have h17 : 10 ^ k ≤ 10 ^ 17 := Nat.pow_le_pow_right (by decide) (by omega)
    have e17 : (10 : Nat) ^ 17 = 100000000000000000 := by decide
    unfold isD at hc
    have ha' : a * 10 + (c.toNat - 48) < 10 ^ (k + 1) := by rw [Nat.pow_succ]; omega
    unfold Lib.parseUintM
    rw [if_pos hc, if_neg (by omega), if_neg (by omega), parse_digits r _ (k + 1) (fun b hb => hd b (List.mem_cons_of_mem _ hb)) ha' hk']
    unfold valF
    rw [List.foldl_cons, Nat.mul_comm a 10]
theorem parse_num {l : List UInt8} (h : Num l) : Lib.parseIntB 64 l = .ok (val l : Int) := by
  obtain ⟨⟨hne, hd, _⟩, hl⟩ := h
  obtain ⟨c, r, rfl⟩ := List.exists_cons_of_ne_nil hne
  have hc := hd c (List.mem_cons_self ..)
  unfold isD at hc
  have hlt : val (c :: r) < 10 ^ 18 := Nat.lt_of_lt_of_le (val_lt _ hd) (Nat.pow_le_pow_right (by decide) hl)
  have e18 : (10 : Nat) ^ 18 = 1000000000000000000 := by decide
  have hp : Lib.parseUintB 64 (c :: r) = .ok (val (c :: r)) := by
    unfold Lib.parseUintB
    rw [if_neg (by simp)]
    exact parse_digits (c :: r) 0 0 hd (by decide) (by omega)
  rw [Lib.parseIntB_plain 64 c r (by omega) (by omega), hp]
  show (if 2 ^ (64 - 1) ≤ val (c :: r) then _ else _) = _
  rw [if_neg (by have : (2 : Nat) ^ (64 - 1) = 9223372036854775808 := by decide
                 omega)]
def isH (b : UInt8) : Prop := (48 ≤ b.toNat ∧ b.toNat ≤ 57) ∨ (97 ≤ b.toNat ∧ b.toNat ≤ 102)
instance {b : UInt8} : Decidable (isH b) := by unfold isH; infer_instance
def xd (b : UInt8) : Nat := if b.toNat ≤ 57 then b.toNat - 48 else b.toNat - 87
def hexV (l : List UInt8) : Nat := l.foldl (fun n b => 16 * n + xd b) 0
theorem hexV_snoc (l : List UInt8) (b : UInt8) : hexV (l ++ [b]) = 16 * hexV l + xd b := by simp [hexV, List.foldl_append]
theorem xd_lt {b : UInt8} (h : isH b) : xd b < 16 := by
  unfold isH at h; unfold xd; split <;> omega
theorem hd_xd {b : UInt8} (h : isH b) {n : Nat} (e : n % 16 = xd b) : hd n = b := by
  apply UInt8.toNat_inj.1
  rw [hd_val, e]
  unfold isH at h; unfold xd
  repeat' split
  all_goals omega
theorem hexN_V : ∀ l : List UInt8, (∀ b ∈ l, isH b) → hexN l.length (hexV l) = l ∧ hexV l < 16 ^ l.length := by
  intro l
  induction hl : l.length generalizing l with
  | zero => intro _; rw [List.eq_nil_of_length_eq_zero hl]; exact ⟨rfl, by decide⟩
  | succ k ih =>
    intro h
    obtain ⟨l', b, rfl⟩ : ∃ l' b, l = l' ++ [b] := ⟨l.dropLast, l.getLast (by intro e; rw [e] at hl; simp at hl), (List.dropLast_concat_getLast _).symm⟩
    have hl2 : l'.length = k := by simpa using hl
    obtain ⟨i1, i2⟩ := ih l' hl2 (fun c hc => h c (List.mem_append_left _ hc))
    have hb := h b (by simp)
    have hx := xd_lt hb
    rw [hexV_snoc]
    refine ⟨?_, by rw [Nat.pow_succ]; omega⟩
    show hexN k ((16 * hexV l' + xd b) / 16) ++ [hd (16 * hexV l' + xd b)] = _
    rw [show (16 * hexV l' + xd b) / 16 = hexV l' by omega, i1, hd_xd hb (by omega)]
theorem hexV_iff {t : List UInt8} {x : UInt64} (h : ∀ b ∈ t, isH b) (hl : t.length = 16) : hexV t = x.toNat ↔ t = hex x := by
  obtain ⟨h1, h2⟩ := hexN_V t h
  rw [hl] at h1 h2
  have hx : x.toNat < 16 ^ 16 := x.toNat_lt
  constructor
  · intro e
    unfold hex
    rw [← e, h1]
  · intro e
    refine hexN_inj 16 _ _ h2 hx ?_
    rw [h1]; exact e
def Hx (l : List UInt8) : Prop := l.length = 20 ∧ l.take 4 = sumw ∧ ∀ b ∈ l.drop 4, isH b
instance {l : List UInt8} : Decidable (Hx l) := by unfold Hx; infer_instance
def hexs : List UInt8 := [48, 49, 50, 51, 52, 53, 54, 55, 56, 57, 97, 98, 99, 100, 101, 102]
theorem hexs_iff {b : UInt8} : hexs.contains b = true ↔ isH b := by
  have key : ∀ n : Nat, n < 256 → (hexs.contains (UInt8.ofNat n) = true ↔ isH (UInt8.ofNat n)) := by decide +kernel
  have := key b.toNat b.toNat_lt
  rwa [UInt8.ofNat_toNat] at this
theorem dropW_nil {α : Type} {p : α → Bool} : ∀ {l : List α}, l.dropWhile p = [] ↔ ∀ b ∈ l, p b = true
  | [] => by simp
  | a :: l => by
    rw [List.dropWhile_cons]
    cases h : p a with
    | true => simp [h]; exact dropW_nil
    | false => simp [h]
theorem mem_tw {α : Type} {p : α → Bool} : ∀ {l : List α} {b : α}, b ∈ l.takeWhile p → p b = true
  | [], b, h => by simp at h
  | a :: l, b, h => by
    rw [List.takeWhile_cons] at h
    split at h
    · rename_i hp
      rcases List.mem_cons.1 h with rfl | h
      · exact hp
      · exact mem_tw h
    · simp at h
theorem trim_nil {t : List UInt8} : Lib.trimS t hexs = [] ↔ ∀ b ∈ t, isH b := by
  unfold Lib.trimS Lib.trimLeftS Lib.trimRightS
  rw [dropW_nil]
  constructor
  · intro h b hb
    by_cases hc : hexs.contains b = true
    · exact hexs_iff.1 hc
    · have hmem : b ∈ (List.dropWhile (hexs.contains ·) t.reverse).reverse := by
        rw [List.mem_reverse]
        have : b ∈ t.reverse := List.mem_reverse.2 hb
        rw [← List.takeWhile_append_dropWhile (p := (hexs.contains ·)) (l := t.reverse)] at this
        rcases List.mem_append.1 this with h1 | h1
        · exact absurd (mem_tw h1) hc
        · exact h1
      exact hexs_iff.1 (h b hmem)
  · intro h b hb
    refine hexs_iff.2 (h b ?_)
    rw [List.mem_reverse] at hb
    exact List.mem_reverse.1 ((List.dropWhile_suffix _).subset hb)
end Go.Fip.B
namespace Go.Fip
open Go.Proofs Go.RowKit
theorem yv_ifeq {P : Program} {N : Nat} {ds : List Deferred} {env : Env} {S : World → Prop} {x : Operand} {v : Value} {T : Nat} {T' : TypeId} (hk : ∀ d w, (Op.equalIn (d + 1) T .nilIface .nilIface).run P w = .ok true w) (hx : ev env x = some v) (h : v = .nilIface) :
  Yv P N ds env (.binOp .eql T x (.const .nilIface) T') (.bool true) S := fun a ha w _ _ _ _ _ _ => by
 subst h
 have hk2 : (Op.equal T .nilIface .nilIface).run P w = .ok true w := hk 9999 w
 have he : a.eval (.const .nilIface) = .nilIface := rfl
 simp only [execOp, ha.ev hx, he, Sem.run_bind]
 have hg : (eqGuard .eql T x (.const .nilIface) .nilIface .nilIface).run P w = .ok () w := by
  unfold eqGuard; simp
 rw [hg]
 simp [Result.andThen, binOp, hk2]
theorem yv_ifne {P : Program} {N : Nat} {ds : List Deferred} {env : Env} {S : World → Prop} {x : Operand} {v : Value} {T : Nat} {T' : TypeId} (hk : ∀ te pe d w, (Op.equalIn (d + 1) T (.iface te pe) .nilIface).run P w = .ok false w) (hx : ev env x = some v) (h : ∃ te pe, v = .iface te pe) :
  Yv P N ds env (.binOp .eql T x (.const .nilIface) T') (.bool false) S := fun a ha w _ _ _ _ _ _ => by
 obtain ⟨te, pe, rfl⟩ := h
 have hk2 : (Op.equal T (.iface te pe) .nilIface).run P w = .ok false w := hk te pe 9999 w
 have he : a.eval (.const .nilIface) = .nilIface := rfl
 simp only [execOp, ha.ev hx, he, Sem.run_bind]
 have hg : (eqGuard .eql T x (.const .nilIface) (.iface te pe) .nilIface).run P w = .ok () w := by
  unfold eqGuard; simp
 rw [hg]
 simp [Result.andThen, binOp, hk2]
theorem T.if114 : ∀ d w, (Op.equalIn (d + 1) 114 .nilIface .nilIface).run Tryz.prog w = .ok true w := fun d w => by simp [Op.equalIn, run_underlying Tryz.underlying114, Result.andThen]
theorem T.ifn114 : ∀ te pe d w, (Op.equalIn (d + 1) 114 (.iface te pe) .nilIface).run Tryz.prog w = .ok false w := fun te pe d w => by simp [Op.equalIn, run_underlying Tryz.underlying114, Result.andThen]
theorem B.split_full (c : UInt8) (l : List UInt8) : (Lib.splitB ⟨#[c]⟩ 0 (Lib.countB ⟨l.toArray⟩ ⟨#[c]⟩) ⟨l.toArray⟩).map Value.string = (B.sp c l).flatMap encT ∧ Lib.countB ⟨l.toArray⟩ ⟨#[c]⟩ + 1 = (B.sp c l).length := by
 have h1 : (Lib.splitB ⟨#[c]⟩ 0 (Lib.countB ⟨l.toArray⟩ ⟨#[c]⟩) ⟨l.toArray⟩).map (·.data.toList) = B.sp c l := by
  rw [Lib.splitB_data]; exact B.parts_sp c l
 have h2 := Lib.splitB_all ⟨#[c]⟩ (Nat.le_refl 1) 0 _ ⟨l.toArray⟩ rfl
 refine ⟨?_, by rw [← h1, List.length_map, h2]⟩
 rw [← h1]
 show _ = List.flatMap (fun x => [str x]) _
 rw [← List.map_eq_flatMap, List.map_map]
 exact List.map_congr_left fun b _ => rfl
theorem c88 {l : List UInt8} {c : UInt8} {w : World} (hG : Gl w) (hl : l.length ≤ 100000) : Fn Tryz.prog 88 #[str l, str [c]] w (fun u w' => Own 9 1 encT u (B.sp c l) w') := by
 obtain ⟨m, hm⟩ := hG.len
 obtain ⟨h1, h2⟩ := B.split_full c l
 have hn : (B.sp c l).length ≤ 1000000 := Nat.le_trans (B.sp_len c l) (by omega)
 refine fn_calls (ent Tryz.func88 (by kernel_rfl) rfl _) ((Tryz.strings_Split ⟨l.toArray⟩ ⟨#[c]⟩ m w (by rw [size_str]; omega) hm (Nat.le_refl 1)).mono fun e w' ⟨he, hw⟩ => ⟨_, he, ?_, fun w'' ha => ?_⟩)
 ·rw [hw]; exact below_alloc w _
 ·have hit := ow_lit_item T.el56_encT (B.sp c l) hn w
  have hw2 : w' = w.alloc (.cells ((B.sp c l).flatMap encT).toArray 9) := by rw [hw, h1]
  rw [hw2] at ha
  have := hit.2.2 w'' (ha.mono (Nat.le_refl _) (Nat.le_of_eq (by simp; rfl)))
  rw [h2]
  exact this.1
def B.NB (u : Value) (l : List UInt8) : Prop := ∃ n : Int, u = .tuple #[.int .i64 n, .bool (decide (B.Num l))] ∧ (B.Num l → n = (B.val l : Int))
theorem B.nb_f {l : List UInt8} {n : Int} (h : ¬ B.Num l) : B.NB (.tuple #[.int .i64 n, .bool false]) l := ⟨n, by rw [dF h], fun c => absurd c h⟩
theorem B.nb_t {l : List UInt8} {n : Int} (h : B.Num l) (e : n = (B.val l : Int)) : B.NB (.tuple #[.int .i64 n, .bool true]) l := ⟨n, by rw [dT h], fun _ => e⟩
theorem B.nb_d {l : List UInt8} {n : Int} {p : Prop} [Decidable p] (h : p → B.Num l ∧ n = (B.val l : Int)) (h2 : ¬ p → ¬ B.Num l) : B.NB (.tuple #[.int .i64 n, .bool (decide p)]) l := by
 by_cases hp : p
 ·rw [dT hp]; exact B.nb_t (h hp).1 (h hp).2
 ·rw [dF hp]; exact B.nb_f (h2 hp)
theorem B.byteAt_nat {l : List UInt8} {k : Nat} (h : k < l.length) : byteAt l (k : Int) = ((l[k]).toNat : Int) := by
 unfold byteAt
 rw [Int.toNat_natCast, List.getD_eq_getElem?_getD, List.getElem?_eq_getElem h]; rfl
theorem B.nn_long {l : List UInt8} (h : 18 < l.length) : ¬ B.Num l := fun c => absurd c.2 (by omega)
theorem B.num_of {l : List UInt8} {n : Int} (h : Lib.itoa n = l) (h0 : 0 ≤ n) (hb : n ≤ 9223372036854775807) (hl : l.length ≤ 18) : B.Num l ∧ n = (B.val l : Int) := by
 have hn : n.toNat < 10 ^ 20 := Nat.lt_of_lt_of_le (show n.toNat < 9223372036854775808 by omega) (by decide)
 have e : B.dig n.toNat = l := by
  rw [← h]
  unfold Lib.itoa
  rw [if_neg (by omega), B.decD _ hn]
 have hd := B.dig_dec hn
 have hv := B.dig_val hn
 rw [e] at hd hv
 exact ⟨⟨hd, hl⟩, by omega⟩
theorem B.num_itoa {l : List UInt8} (h : B.Num l) : Lib.itoa (B.val l : Int) = l := by
 have hlt : B.val l < 10 ^ 20 := Nat.lt_of_lt_of_le (B.val_lt _ h.1.2.1) (Nat.pow_le_pow_right (by decide) (by have := h.2; omega))
 unfold Lib.itoa
 rw [if_neg (by omega), Int.toNat_natCast, B.decD _ hlt, B.dig_of_val h.1 (by have := h.2; omega)]
theorem c119 {l : List UInt8} {w : World} (hG : Gl w) (hn : l.length ≤ 100000)  :
  Fn Tryz.prog 119 [(str l)].toArray w (fun u _ => B.NB u l) := by
 refine fn_of' (args := [(str l)]) Tryz.func119 rfl (ent Tryz.func119 (by kernel_rfl) rfl) rfl rfl (fun hH => ?_)
 refine seq (region (oA hH rfl rfl (oA hH rfl rfl (ops_nil (thn_n (seq (region (oM hH rfl rfl ?_))))))))
 refine op_fn rfl rfl rfl hH (c153 (l := l) (hG.now hH (n := 0) rfl) (by omega)) (fun u3 w1 lo4 hi5 hH2 hv6 => ?_)
 obtain ⟨n, ev, hu, hbd, hor⟩ := hv6
 subst hu
 have hH7 := hH2.sub (List.sublist_cons_self _ _)
 refine oM hH7 rfl rfl (ops_y hH7 rfl rfl (yv_extract rfl rfl) (ops_y hH7 rfl rfl (yv_extract rfl rfl) (oA hH7 rfl rfl (oA hH7 rfl rfl (ops_nil (thn_n (seq ?_)))))))
 by_cases hc8 : ev = .nilIface
 ·skip
  have hev : ev = .nilIface := ‹_›
  have hnum : B.Num l → n = (B.val l : Int) := fun h => hor.elim (fun h1 => by have h2 := (B.parse_num h).symm.trans h1.1; cases h2; rfl) (fun h1 => absurd (B.parse_num h) (h1.1 _))
  refine region (oM hH7 rfl rfl (oM hH7 rfl rfl ?_))
  refine ops_y hH7 rfl rfl (yv_ifeq T.if114 rfl hev) ?_
  refine oM hH7 rfl rfl (guard_yes rfl rfl rfl (oM hH7 rfl rfl (guard_yes rfl rfl rfl ?_)))
  refine ops_y hH7 rfl rfl (yv_lenS Tryz.underlying9 rfl) ?_
  refine guard_yes rfl rfl rfl ?_
  refine ops_y hH7 rfl rfl (yv_leq rfl rfl) ?_
  refine ops_y hH7 rfl rfl (yv_pick_t rfl rfl rfl) ?_
  refine oM hH7 rfl rfl ?_
  by_cases hc9 : (l.length : Int) ≤ 18
  ·skip
   refine guard_yes rfl rfl (dT hc9) ?_
   refine oM hH7 rfl rfl ?_
   refine guard_yes rfl rfl (dT hc9) ?_
   refine op_fnV rfl rfl rfl hH7 (c108 (n := n) (hG.now hH7 (n := 0) rfl) hbd.1 hbd.2) (fun w10 hH11 => ?_)
   refine guard_yes rfl rfl (dT hc9) ?_
   refine oM hH11 rfl rfl ?_
   refine guard_yes rfl rfl (dT hc9) ?_
   refine ops_y hH11 rfl rfl (yv_eqlS rfl rfl) ?_
   refine ops_y hH11 rfl rfl (yv_pick_t rfl (dT hc9) rfl) ?_
   refine oM hH11 rfl rfl ?_
   by_cases hc12 : (Lib.itoa n) = l
   ·skip
    refine guard_yes rfl rfl (dT hc12) ?_
    refine oM hH11 rfl rfl ?_
    refine guard_yes rfl rfl (dT hc12) ?_
    refine ops_y hH11 rfl rfl (yv_geq rfl rfl) ?_
    refine ops_y hH11 rfl rfl (yv_pick_t rfl (dT hc12) rfl) ?_
    refine oA hH11 rfl rfl (oA hH11 rfl rfl (ops_nil (thn_n (ret ?_))))
    refine fin hH11 (fun w' hf => (res2 rfl (show RV _ _ _ (.tmp 2) _ from rfl) (show RV _ _ _ (.tmp 3) _ from rfl))) (fun w' hf => ?_)
    first | exact B.nb_f hnn | exact B.nb_d (fun h => B.num_of ‹_› (by omega) hbd.2 (by omega)) (fun h c => h (by have := hnum c; omega))
   ·skip
    have hnn : ¬ B.Num l := fun h => absurd (show Lib.itoa n = l by rw [hnum h]; exact B.num_itoa h) ‹_›
    refine guard_no rfl rfl (dF hc12) rfl ?_
    refine guard_no rfl rfl (dF hc12) rfl ?_
    refine ops_y hH11 rfl rfl (yv_pick_f rfl (dF hc12) rfl) ?_
    refine oA hH11 rfl rfl (oA hH11 rfl rfl (ops_nil (thn_n (ret ?_))))
    refine fin hH11 (fun w' hf => (res2 rfl (show RV _ _ _ (.tmp 2) _ from rfl) (show RV _ _ _ (.tmp 3) _ from rfl))) (fun w' hf => ?_)
    first | exact B.nb_f hnn | exact B.nb_d (fun h => B.num_of ‹_› (by omega) hbd.2 (by omega)) (fun h c => h (by have := hnum c; omega))
  ·skip
   have hnn : ¬ B.Num l := B.nn_long (by omega)
   refine guard_no rfl rfl (dF hc9) rfl ?_
   refine guard_no rfl rfl (dF hc9) rfl ?_
   refine guard_no rfl rfl (dF hc9) rfl ?_
   refine guard_no rfl rfl (dF hc9) rfl ?_
   refine ops_y hH7 rfl rfl (yv_pick_f rfl (dF hc9) rfl) ?_
   refine oM hH7 rfl rfl (guard_no rfl rfl rfl rfl (guard_no rfl rfl rfl rfl ?_))
   refine ops_y hH7 rfl rfl (yv_pick_f rfl rfl rfl) ?_
   refine oA hH7 rfl rfl (oA hH7 rfl rfl (ops_nil (thn_n (ret ?_))))
   refine fin hH7 (fun w' hf => (res2 rfl (show RV _ _ _ (.tmp 2) _ from rfl) (show RV _ _ _ (.tmp 3) _ from rfl))) (fun w' hf => ?_)
   first | exact B.nb_f hnn | exact B.nb_d (fun h => B.num_of ‹_› (by omega) hbd.2 (by omega)) (fun h c => h (by have := hnum c; omega))
 ·skip
  have hif : ∃ te pe, ev = .iface te pe := hor.elim (fun h => absurd h.2 ‹_›) (fun h => h.2)
  have hnn : ¬ B.Num l := fun h => hor.elim (fun h1 => absurd h1.2 ‹_›) (fun h1 => absurd (B.parse_num h) (h1.1 _))
  refine region (oM hH7 rfl rfl (oM hH7 rfl rfl ?_))
  refine ops_y hH7 rfl rfl (yv_ifne T.ifn114 rfl hif) ?_
  refine oM hH7 rfl rfl (guard_no rfl rfl rfl rfl (guard_no rfl rfl rfl rfl (guard_no rfl rfl rfl rfl ?_)))
  refine ops_y hH7 rfl rfl (yv_pick_f rfl rfl rfl) ?_
  refine oM hH7 rfl rfl (guard_no rfl rfl rfl rfl (guard_no rfl rfl rfl rfl (guard_no rfl rfl rfl rfl (guard_no rfl rfl rfl rfl ?_))))
  refine ops_y hH7 rfl rfl (yv_pick_f rfl rfl rfl) ?_
  refine oM hH7 rfl rfl (guard_no rfl rfl rfl rfl (guard_no rfl rfl rfl rfl ?_))
  refine ops_y hH7 rfl rfl (yv_pick_f rfl rfl rfl) ?_
  refine oA hH7 rfl rfl (oA hH7 rfl rfl (ops_nil (thn_n (ret ?_))))
  refine fin hH7 (fun w' hf => (res2 rfl (show RV _ _ _ (.tmp 2) _ from rfl) (show RV _ _ _ (.tmp 3) _ from rfl))) (fun w' hf => ?_)
  first | exact B.nb_f hnn | exact B.nb_d (fun h => B.num_of ‹_› (by omega) hbd.2 (by omega)) (fun h c => h (by have := hnum c; omega))
end Go.Fip
namespace Go.Fip
open Go.Proofs Go.RowKit
theorem B.sp_nth_len {c : UInt8} {l : List UInt8} {k : Nat} (h : k < (B.sp c l).length) : (nth (B.sp c l) (k : Int)).length ≤ l.length := B.sp_mem_len c l _ (B.nth_mem h)
end Go.Fip
