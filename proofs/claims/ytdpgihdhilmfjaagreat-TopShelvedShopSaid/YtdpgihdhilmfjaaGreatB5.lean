/- Joined texts: what the statement needs, walks by program (wip/tools). -/
import Derived.Test.YtdpgihdhilmfjaaGreatB4
import Derived.Test.YtdpgihdhilmfjaaGreatB3
import Derived.Test.YtdpgihdhilmfjaaGreatB2
set_option linter.unusedVariables false
set_option linter.unusedSimpArgs false
set_option linter.unusedSectionVars false
set_option linter.unnecessarySimpa false
namespace Go.Fip
open Go.RowKit
section
variable {r : Option Nat} {P : Program} {N : Nat} {ds : List Deferred} {env : Env} {w : World} {Q : Post} {all : Array Oper} {rest : List Oper} {H : List Item} {x y : Operand} {v : Value} {d : Nat} {ty : TypeId} {pos : String} {after : Array Edge}
theorem WR {α : Type} {T E sz n lo hi i j : Nat} {enc : α → List Value} (hE : El P T E sz enc) {xs : List α} (hs : ev env x = some (cutv v sz 0 i)) (hx : ev env y = some (cutv v sz j xs.length)) (hd : Nat.blt d N = true) (hH : Heap H w)
    (hn : H[n]? = some (ow lo hi E sz enc v xs)) (hij : i ≤ j) (hj : j ≤ xs.length) (h1 : 1 ≤ xs.length)
    (h : ∀ w', Heap (H.set n (ow lo hi E sz enc v (xs.take i ++ xs.drop j ++ xs.drop (i + (xs.length - j))))) w' → Ops r P N all rest ds ((d, cutv v sz 0 (i + (xs.length - j))) :: env) w' Q) :
    Ops r P N all (⟨some d, .call ⟨.builtin .append, #[x, y], #[T, T]⟩, ty, pos, after, none⟩ :: rest) ds env w Q := by
  have hok := hH.okAt hn
  have how : Ow lo hi E sz enc v xs w := hH.get hn
  obtain ⟨inf, z, hi1, hz, hsz, hby, hzs⟩ := hE.info
  rcases how.1.2 with ⟨rfl, h3⟩ | ⟨g, cap, cur, hsv, hb0, hg, h4, h5, h6, h7⟩
  · omega
  · subst hsv
    subst hsz
    have hrd := Rd.cut (Ow.rd hE.len how) (lo := j) (hi := xs.length) hj (Nat.le_refl _)
    rw [List.take_length] at hrd
    have e0 : ∀ k, cutv (.slice (some ⟨g, 0, none⟩) xs.length cap) inf.size 0 k = .slice (some ⟨g, 0, none⟩) k cap := fun k => by simp [cutv, Addr.add]
    obtain ⟨o, eo⟩ : ∃ o, cutv (.slice (some ⟨g, 0, none⟩) xs.length cap) inf.size j xs.length = .slice (some ⟨g, o, none⟩) (xs.length - j) (cap - j) := by
      simp only [cutv]
      by_cases hc : cap = j
      · exact ⟨0, by rw [if_pos hc]⟩
      · exact ⟨j * inf.size, by rw [if_neg hc]; simp [Addr.add]; intro h; exact h.symm⟩
    rw [e0] at hs
    rw [eo] at hx hrd
    have hlen : (xs.drop j).length = xs.length - j := List.length_drop
    have hfl := yP hE.len (xs.drop j)
    have hle2 : xs.length * inf.size ≤ cap * inf.size := Nat.mul_le_mul_right _ h4
    have hle : (i + (xs.length - j)) * inf.size ≤ xs.length * inf.size := Nat.mul_le_mul_right _ (by omega)
    rw [Nat.add_mul] at hle
    have hr := run_append_room (P := P) w T ty E inf hE.und hi1 g i cap cur hg ⟨g, o, none⟩ (xs.length - j) (cap - j) ((xs.drop j).flatMap enc) (by rw [hfl, hlen]) (hrd.flat hE.len hE.pos)
      (fun u hu => by obtain ⟨x, _, hx⟩ := List.mem_flatMap.1 hu; exact hE.one x u hx) (by omega) (by rw [hfl, hlen, h6]; omega)
    have hov := Z8 (P := P) (w := w) (lo := lo) (hi := hi) hE (ys := xs.drop j) hg rfl h4 h5 h6 h7 (how.2 g rfl) i (by omega)
    rw [hlen] at hov
    have hh := h _ (hH.set hn ((qA w g _).mono' (how.2 g rfl)) (.inl ⟨Nat.le_refl _, Nat.le_refl _⟩) (jL hov hok.1 (by rw [setRow_size]; exact hok.2.1)))
    rw [e0] at hh
    refine uJ hd (fun c hc => by cases hc) (fun a ha => ?_) hh
    simp only [execOp, resolve, invoke, builtin, Sem.run_bind, Sem.run_pure, Result.andThen, List.map_toArray, List.map_cons, List.map_nil, ha.ev hs, ha.ev hx, hr, splice]
theorem JY {v : Value} {n sz q : Nat} (hv : SliceIs v n) : ∃ a c, v = .slice a n c ∧ n ≤ c ∧ cutv v sz 0 q = .slice a q c := by
  obtain ⟨a, c, rfl, hnc, ha⟩ := hv
  refine ⟨a, c, rfl, hnc, ?_⟩
  rcases ha with ⟨rfl, rfl⟩ | ⟨b, o, rfl⟩
  · simp [cutv]
  · have e : (⟨b, o, none⟩ : Addr).add 0 = ⟨b, o, none⟩ := by unfold Addr.add; split <;> rfl
    simp [cutv, e]
theorem G0 {S : World → Prop} {z p : Operand} {T E sz n q : Nat} {k k2 : IntKind} {l h : Int} (hT : TSlice P T E sz) (hx : ev env x = some (cutv v sz 0 q)) (hy : ev env z = some (.int k l)) (hz : ev env p = some (.int k2 h)) (hv : SliceIs v n) (hl : l = (q : Int)) (hh : h = (n : Int)) (hq : q ≤ n) :
  Yv P N ds env (.slice T x (some z) (some p) none) (cutv v sz q n) S := fun t ht w _ _ _ _ _ _ => by
 subst hl hh
 obtain ⟨a, c, rfl, hnc, e0⟩ := JY (sz := sz) (q := q) hv
 rw [e0] at hx
 have e1 : ∀ (k : IntKind) (y : Nat) (q : Int) (code : BoundsCode), 0 ≤ q → q ≤ y → (Instr.sliceBound (.int k q) y code).run P w = .ok q.toNat w := by
  intro k y q code h0 h1
  simp [Instr.sliceBound, asIntOf, h0, h1]
 have h3 := e1 k2 c (n : Int) .sliceAcap (by omega) (by omega)
 have h4 := e1 k n (q : Int) .sliceB (by omega) (by omega)
 have eb1 : (Instr.sliceBounds true q c (some (.int k (q : Int))) (some (.int k2 (n : Int))) none).run P w = .ok (q, n, c) w := by
  simp [Instr.sliceBounds, h3, h4, Result.andThen]
 simp [execOp, ht.ev hx, ht.ev hy, ht.ev hz, Instr.sliceAt, Instr.slice, run_underlying hT.1, eb1, vP hT.2, Result.andThen, cutv]
theorem zAk {S : World → Prop} {z p q : Operand} {T E sz n lo hi : Nat} {k k2 k3 : IntKind} {l h m : Int} (hT : TSlice P T E sz) (hx : ev env x = some v) (hy : ev env z = some (.int k l)) (hz : ev env p = some (.int k2 h)) (hm : ev env q = some (.int k3 m)) (hv : SliceIs v n) (hl : l = (lo : Int)) (hh : h = (hi : Int)) (hmn : m = (n : Int)) (h1 : lo ≤ hi) (h2 : hi ≤ n) :
  Yv P N ds env (.slice T x (some z) (some p) (some q)) (ZA v sz lo hi n) S := fun t ht w _ _ _ _ _ _ => by
 subst hl hh hmn
 obtain ⟨a, c, rfl, hnc, hp⟩ := hv
 have e1 : ∀ (k : IntKind) (y : Nat) (q : Int) (code : BoundsCode), 0 ≤ q → q ≤ y → (Instr.sliceBound (.int k q) y code).run P w = .ok q.toNat w := by
  intro k y q code h0 h1
  simp [Instr.sliceBound, asIntOf, h0, h1]
 have h3 := e1 k3 c (n : Int) .slice3Acap (by omega) (by omega)
 have h4 := e1 k2 n (hi : Int) .slice3B (by omega) (by omega)
 have h5 := e1 k hi (lo : Int) .slice3C (by omega) (by omega)
 have eb1 : (Instr.sliceBounds true n c (some (.int k (lo : Int))) (some (.int k2 (hi : Int))) (some (.int k3 (n : Int)))).run P w = .ok (lo, hi, n) w := by
  simp [Instr.sliceBounds, h3, h4, h5, Result.andThen]
 simp [execOp, ht.ev hx, ht.ev hy, ht.ev hz, ht.ev hm, Instr.sliceAt, Instr.slice, run_underlying hT.1, eb1, vP hT.2, Result.andThen, ZA]
end
end Go.Fip
namespace Go.Fip
open Go.Proofs Go.RowKit
theorem c94 {v : Value} {l : List Int} {g i j : Nat} {w : World} (h0 : Own 3 1 encI v l w) (hg : v.ownBlock = some g) (hn : l.length ≤ 1000000) (hij : i < j) (hj : j ≤ l.length) :
  FnM Tryz.prog 94 [v, (.int .i64 (i : Int)), (.int .i64 (j : Int))].toArray w g (fun u w => Own 3 1 encI u (l.take i ++ l.drop j) w) := by
 refine uQ (args := [v, (.int .i64 (i : Int)), (.int .i64 (j : Int))]) Tryz.func94 Z (ent Tryz.func94 kz Z) Z Z (qF h0 hg) (fun hH => ?_)
 have hll : (l.take i ++ l.drop j ++ l.drop (i + (l.length - j))).length = l.length := by simp; omega
 have htl : ((l.take i ++ l.drop j ++ l.drop (i + (l.length - j))).take (i + (l.length - j))).length = (i + (l.length - j)) := by rw [List.length_take, hll]; omega
 refine zr (oA hH Z (zs (oM hH Z (oM hH Z (oM hH Z (oM hH Z (oY hH (z8 T.yS Z (Heap.yI T.zA hH (n := 0) Z).is) (oY hH (zAk T.yS Z Z Z Z (Heap.yI T.zA hH (n := 0) Z).is Z Z Z om om) (zt (seq (zr (oM hH Z (oM hH Z (oY hH (y5 Z Z) (zC ?_)))))))))))))))
 refine zN ?_
 have hc1 : ¬ ((i : Int) = (j : Int)) := (show ¬ ((i : Int) = (j : Int)) by omega)
 refine zL Z (dF hc1) (skip (zu (oM hH Z (oY hH (z8 T.yS Z (Heap.yI T.zA hH (n := 0) Z).is) (oA hH Z (zt (seq (zY (fun w' => True) T.mixed (fun w2 hr3 => ?_)))))))))
 have hH4 := hH.redrawn hr3
 refine zK [0, 1, 2, 3, 4, 5] kz trivial _ _ _ kz (qM Z Z Z (qM Z Z Z (zJ Z Z (qT T.yS Z Z (Heap.yI T.zA hH4 (n := 0) Z).is om) (qM Z Z Z (qM Z Z Z (zJ Z Z (x6 T.yS Z Z (Heap.yI T.zA hH4 (n := 0) Z).is om) (zQ (z1 6 kz Z (WR (n := 0) (i := i) (j := j) T.zA Z Z Z hH4 Z om om om (fun w5 hH6 => (zC (⟨trivial, (zK [7] kz trivial _ _ _ kz (zJ Z Z (yK Z) (zQ (zX kz (zu (oM hH6 Z (oM hH6 Z ?_)))))))⟩))))))))))))
 refine oY hH6 (z8 T.yS Z ((Rd.upto (Heap.yI T.zA hH6 (n := 0) Z) (hi := (i + (l.length - j))) (by rw [hll]; omega))).is) (oM hH6 Z (oY hH6 (G0 T.yS Z Z Z (Heap.yI T.zA hH6 (n := 0) Z).is om (by rw [hll]) (by rw [hll]; omega)) (qY (n := 0) (q := (i + (l.length - j))) T.zA (0 : Int) T.uU Z Z hH6 Z (by rw [hll]; omega) (fun w7 hH8 => (zs (oM hH8 Z (oA hH8 Z (zt (ret (finM hH8 (yN Z (rt Z)) (fun w' hf => ((congrArg (fun q => Own 3 1 encI (cutv v 1 0 (i + (l.length - j))) q w') ?_).mp (Own.upto (q := (i + (l.length - j))) (fun _ => Z) hf.1 (by simp; omega))))))))))))))
 rw [List.take_append_of_le_length (by rw [List.length_take, hll]; omega), List.take_take, Nat.min_self, List.take_left' (by simp; omega)]
end Go.Fip
namespace Go.Fip
open Go.Proofs Go.RowKit
theorem c99 {x n : Int} {b1 : Nat} {w : World} (k1 : Bx b1 3 [.int .i64 n] w)  :
  Fn Tryz.prog 99 [(.int .i64 x), (.pointer (some ⟨b1, 0, none⟩))].toArray w (fun u _ => u = .bool (decide (x = n))) := by
 refine fz Tryz.func99 Z kz Z Z (fun hH => (zr (oA hH Z (zs (oM hH Z (oY hH (zE T.yU Z (fun _ hw => yM (k1.now hw (n := 0) Z) Z)) (oY hH (y5 Z Z) (oA hH Z (zt (ret (fin hH (fun w' hf => (yN Z (rt Z))) (fun w' hf => Z))))))))))))
theorem zEc {v : Value} {l : List Int} {n : Int} {b1 : Nat} {w : World} (h0 : Rd encI 1 v l w) (k1 : Bx b1 3 [.int .i64 n] w) (hl : l.length ≤ 1000000)  :
  Fn Tryz.prog 148 [v, (.func (.func 99) #[] #[(.pointer (some ⟨b1, 0, none⟩))])].toArray w (fun u _ => u = .int .i64 (idx (fun x : Int => decide (x = n)) l)) := by
 refine fz Tryz.func148 Z kz Z Z (fun hH => (zr (oA hH Z (zt (seq (zr (oM hH Z (oY hH (z8 T.yS Z (h0.now hH (n := 0) Z).is) (oM hH Z (zt (block (loop (S := Nat) (fun k => [(8, (.int .i64 (k : Int))), (0, v), (1, (.func (.func 99) #[] #[(.pointer (some ⟨b1, 0, none⟩))])), (7, (.int .i64 (l.length : Int)))]) (fun k w1 => Heap [base w] w1 ∧ k ≤ l.length ∧ ∀ i, i < k → (fun x : Int => decide (x = n)) (nth l (i : Int)) = false) (fun k => l.length - k) (0) (uC Z (uC Z (uC Z (uC Z (Sub.nil _))))) ?_ ?_))))))))))))
 ·exact ⟨hH, om, S.all_zero⟩
 rintro k w1 ⟨hH2, hk, hall⟩
 refine zr (oY hH2 (yL Z Z) (zt (seq ?_)))
 by_cases hc3 : (k : Int) < (l.length : Int)
 ·refine zO Z (dT hc3) (skip (zN (seq (block (zr (oM hH2 Z (oA hH2 Z (zs (oM hH2 Z (oM hH2 Z (oM hH2 Z (oY hH2 (zP T.yS Z Z (h0.now hH2 (n := 0) Z).is om) (oY hH2 (zE T.yU Z (fun _ hw => Rd.at (h0.now hw (n := 0) Z) (i := (k : Int)) om (j := 0) Z)) (zM Z Z Z hH2 (c99 (k1.now hH2 (n := 0) Z)) (fun w4 hH5 => (zt ?_))))))))))))))))
  by_cases hc6 : nth l (k : Int) = n
  ·have hp : (fun x : Int => decide (x = n)) (nth l (k : Int)) = true := (decide_eq_true hc6)
   refine zO Z (dT hc6) (zr (oM hH5 Z (oA hH5 Z (zt (ret (yE (z6 (xY (yE (z6 (fin hH5 (fun w' hf => (yN Z (rt Z))) (fun w' hf => ?_))))))))))))
   first | exact congrArg (Value.int .i64) (x5 (k := k) (by omega) hall hp).symm | exact congrArg (Value.int .i64) (xP (fun i hi => hall i (by omega))).symm
  have hp : (fun x : Int => decide (x = n)) (nth l (k : Int)) = false := (decide_eq_false hc6)
  refine zL Z (dF hc6) (skip (yC (zN (region (oY hH5 (zV Z Z om) (oM hH5 Z (zC (y0 (k + 1) (uC Z (uC Z (uC Z (uC Z (Sub.nil _))))) (⟨hH5, om, S.all_snoc hall hp⟩) om3))))))))
 refine zL Z (dF hc3) (exit (yZ (xF (z7 (zu (oA hH2 Z (zt (ret (fin hH2 (fun w' hf => (yN Z (rt Z))) (fun w' hf => ?_))))))))))
 first | exact congrArg (Value.int .i64) (x5 (k := k) (by omega) hall hp).symm | exact congrArg (Value.int .i64) (xP (fun i hi => hall i (by omega))).symm
theorem zDy {v : Value} {l : List Int} {n : Int} {b1 g : Nat} {w : World} (h0 : Own 3 1 encI v l w) (hg : v.ownBlock = some g) (k1 : Bx b1 3 [.int .i64 n] w) (hne : b1 ≠ g) (hn : l.length ≤ 1000000) :
  FnM Tryz.prog 98 [v, (.func (.func 99) #[] #[(.pointer (some ⟨b1, 0, none⟩))])].toArray w g (fun u w => Own 3 1 encI u (l.filter fun y => !decide (y = n)) w) := by
 refine uQ (args := [v, (.func (.func 99) #[] #[(.pointer (some ⟨b1, 0, none⟩))])]) Tryz.func98 Z (ent Tryz.func98 kz Z) Z Z (qF h0 hg) (fun hH => ?_)
 have hlen : l.length ≤ 1000000 := hn
 refine zr (oA hH Z (zs (oM hH Z (oM hH Z (zM Z Z Z hH (zEc (Heap.yI T.zA hH (n := 0) Z) (Bx.nowM k1 hne hH (n := 1) (m := 2) Z Z) om) (fun w1 hH2 => (oA hH2 Z (zt (seq (zr (oM hH2 Z (oY hH2 (y5 Z Z) (zt ?_)))))))))))))
 by_cases hc3 : (idx (fun x : Int => decide (x = n)) l) = (-1)
 ·have hall := ((qP (fun y : Int => decide (y = n)) l).resolve_right (fun h => by obtain ⟨k, _, h2, _⟩ := h; omega)).2
  refine zO Z (dT hc3) (zr (oM hH2 Z (oA hH2 Z (zt (ret (z6 (finM hH2 (yN Z (rt Z)) (fun w' hf => ?_))))))))
  first | exact (congrArg (fun q => Own 3 1 encI v q w') (XE hall)).mp hf.1 | exact (congrArg (fun q => Own 3 1 encI (cutv v 1 0 i) q w') (hD.done (by omega) 0)).mp (Own.upto (q := i) (fun _ => rfl) hf.1 (by simp; omega))
 obtain ⟨k, hk, hke, hkp, hkf⟩ := (qP (fun y : Int => decide (y = n)) l).resolve_left (fun h => absurd h.1 ‹_›)
 refine zL Z (dF hc3) (skip (zN (seq (zr (oM hH2 Z (oY hH2 (zV Z Z om) (oA hH2 Z (zt (block (loop (S := Nat × Nat × List Int) (fun (i, j, L) => [(5, (.int .i64 (i : Int))), (6, (.int .i64 (j : Int))), (0, v), (1, (.func (.func 99) #[] #[(.pointer (some ⟨b1, 0, none⟩))])), (4, (.slice none 0 0))]) (fun (i, j, L) w1 => Heap [ow g (g + 1) 3 1 encI v L, restL w g, restR w g] w1 ∧ DelAt (fun y : Int => decide (y = n)) l L i j) (fun (i, j, L) => l.length - j) (k, (k + 1), l) (Sub.cons (show some (Value.int .i64 (idx (fun y : Int => decide (y = n)) l)) = some (Value.int .i64 ((k : Nat) : Int)) from by rw [hke]) (Sub.cons (show some (Value.int .i64 (idx (fun y : Int => decide (y = n)) l + 1)) = some (Value.int .i64 ((k + 1 : Nat) : Int)) from by rw [hke]; rfl) (uC Z (uC Z (uC Z (Sub.nil _)))))) ?_ ?_))))))))))
 ·exact ⟨hH2, ⟨om, hk, Z, WE hk hkf hkp, Z⟩⟩
 rintro ⟨i, j, L⟩ w4 ⟨hH5, hD⟩
 have hD8 := hD
 obtain ⟨hij, hjl0, hLl, _, _⟩ := hD8
 refine seq (zr (oM hH5 Z (oM hH5 Z (oY hH5 (z8 T.yS Z (Heap.yI T.zA hH5 (n := 0) Z).is) (oY hH5 (yL Z Z) (zt ?_))))))
 by_cases hc6 : (j : Int) < (L.length : Int)
 ·have hjl : j < l.length := by omega
  refine zO Z (dT hc6) (skip (zN (seq (block (zr (oM hH5 Z (oM hH5 Z (oY hH5 (zP T.yS Z Z (Heap.yI T.zA hH5 (n := 0) Z).is om) (oY hH5 (zE T.yU Z (fun _ hw => Rd.at (Heap.yI T.zA hw (n := 0) Z) (i := (j : Int)) om (j := 0) Z)) (oA hH5 Z (zs (oM hH5 Z (oM hH5 Z (zM Z Z Z hH5 (c99 (Bx.nowM k1 hne hH5 (n := 1) (m := 2) Z Z)) (fun w7 hH8 => (oY hH8 (y6 Z) (zt ?_)))))))))))))))))
  by_cases hc9 : nth L (j : Int) = n
  ·have hdrop : (fun y : Int => decide (y = n)) (nth l (j : Int)) = true := by rw [← hD.nth hjl]; exact decide_eq_true ‹_›
   refine zL Z (zG hc9) (skip (yC (zN (region (oM hH8 Z (oY hH8 (zV Z Z om) (oA hH8 Z (zC (y0 (i, j + 1, L) (uC Z (uC Z (uC Z (uC Z (uC Z (Sub.nil _)))))) (⟨hH8, hD.drop hjl hdrop⟩) om3)))))))))
  have hkeep : (fun y : Int => decide (y = n)) (nth l (j : Int)) = false := by rw [← hD.nth hjl]; exact decide_eq_false ‹_›
  refine zO Z (zF hc9) (zr (oM hH8 Z (oM hH8 Z (oM hH8 Z (oY hH8 (zP T.yS Z Z (Heap.yI T.zA hH8 (n := 0) Z).is om) (x4 (n := 0) (i := (i : Int)) (k := 0) (us := [(.int .i64 (nth L (j : Int)))]) (z := nth L (j : Int)) T.zA Z Z hH8 Z om T.sz3 Z Z Z (Nat.le_of_ble_eq_true Z) (fun w10 hH11 => (zq (oM hH11 Z (oY hH11 (zV Z Z om) (oA hH11 Z (zC (yC (zN (region (oM hH11 Z (oY hH11 (zV Z Z om) (oA hH11 Z (zC ?_)))))))))))))))))))
  refine y0 (i + 1, j + 1, (L.set (i : Int).toNat (nth L (j : Int)))) (uC Z (uC Z (uC Z (uC Z (uC Z (Sub.nil _)))))) (⟨hH11, (by have h := hD.keep hjl hkeep; rw [← hD.nth hjl] at h; exact h)⟩) om3
 refine zL Z (dF hc6) (exit (yZ (xF (z7 (zu (oM hH5 Z (oM hH5 Z (oY hH5 (x6 T.yS Z Z (Heap.yI T.zA hH5 (n := 0) Z).is om) (qY (n := 0) (q := (i : Int).toNat) T.zA (0 : Int) T.uU Z Z hH5 Z om (fun w12 hH13 => (zs (oM hH13 Z (oM hH13 Z (oY hH13 (qT T.yS Z Z (Heap.yI T.zA hH13 (n := 0) Z).is (by simp; omega)) (oA hH13 Z (zt ?_))))))))))))))))
 refine ret (finM hH13 (yN Z (rt Z)) (fun w' hf => ?_))
 first | exact (congrArg (fun q => Own 3 1 encI v q w') (XE hall)).mp hf.1 | exact (congrArg (fun q => Own 3 1 encI (cutv v 1 0 i) q w') (hD.done (by omega) 0)).mp (Own.upto (q := i) (fun _ => rfl) hf.1 (by simp; omega))
theorem zFr {v : Value} {l : List Int} {g : Nat} {n lim : Int} {w : World} (h0 : Own 3 1 encI v l w) (hg : v.ownBlock = some g) (hn : l.length ≤ 12) (hne : 1 ≤ l.length) (hnl : n = (l.length : Int)) :
  FnM Tryz.prog 146 [v, (.int .i64 0), (.int .i64 n), (.int .i64 lim)].toArray w g (fun u w => u = .tuple #[] ∧ Own 3 1 encI v (Ps.sorted (fun x y : Int => decide (x < y)) l) w) := by
 refine uQ (args := [v, (.int .i64 0), (.int .i64 n), (.int .i64 lim)]) Tryz.func146 Z (ent Tryz.func146 kz Z) Z Z (qF h0 hg) (fun hH => (zr (oA hH Z (zs (oA hH Z (zt (block (loop (S := Nat) (fun k => [(1, (.int .i64 0)), (2, (.int .i64 n)), (3, (.int .i64 lim)), (0, v)]) (fun k w1 => Heap [ow g (g + 1) 3 1 encI v l, restL w g, restR w g] w1 ∧ True) (fun k => k) (0) (uC Z (uC Z (uC Z (uC Z (Sub.nil _))))) ?_ ?_))))))))
 ·exact ⟨hH, trivial⟩
 rintro k w1 ⟨hH2, hT⟩
 refine block (zr (oM hH2 Z (oM hH2 Z (oY hH2 (y8 Z Z om) (oA hH2 Z (zt (seq (zr (oM hH2 Z (oY hH2 (uS Z Z) (zt ?_)))))))))))
 have hc3 : (n - 0) ≤ 12 := (show n - 0 ≤ 12 by omega)
 refine zO Z (dT hc3) (zr (oM hH2 Z (oM hH2 Z (oM hH2 Z ?_))))
 obtain ⟨g4, hgb5, hgl6⟩ := Ow.blk (show Ow _ _ _ _ _ _ _ _ from hH2.get (n := 0) rfl) (by first | assumption | omega | (simp; done) | decide)
 refine vB (g := g4) (n := 0) Z Z Z hH2 Z hgl6 (zE0 (Heap.own hH2 (n := 0) Z) hgb5 om om) (fun u9 w7 hH8 hv10 => ?_)
 obtain ⟨rfl, -⟩ := hv10
 have hH11 := Heap.xZ (Heap.weaken hH8 (n := 0) Z (φ := Own 3 1 encI v (Ps.sorted (fun x y : Int => decide (x < y)) l)) (fun w' h => h.2)) (n := 0) (by rfl)
 refine zt (ret (z6 (yE (xY (yE (finM hH11 (kF Z ) (fun w' hf => ?_)))))))
 exact ⟨Z, hf.1⟩
theorem c95 {v : Value} {l : List Int} {g : Nat} {w : World} (h0 : Own 3 1 encI v l w) (hg : v.ownBlock = some g) (hn : l.length ≤ 12) (hne : 1 ≤ l.length) :
  FnM Tryz.prog 95 [v].toArray w g (fun u w => u = .tuple #[] ∧ Own 3 1 encI v (Ps.sorted (fun x y : Int => decide (x < y)) l) w) := by
 refine uQ (args := [v]) Tryz.func95 Z (ent Tryz.func95 kz Z) Z Z (qF h0 hg) (fun hH => (zr (oM hH Z (oY hH (z8 T.yS Z (Heap.yI T.zA hH (n := 0) Z).is) (oA hH Z (zq (oM hH Z (oM hH Z (oM hH Z (oY hH (jP Tryz.underlying3 Tryz.underlying196 Z (G4 om)) (zM Z Z Z hH (zC2 (x := (l.length : Int)) om om) (fun w1 hH2 => ?_))))))))))))
 obtain ⟨g3, hgb4, hgl5⟩ := Ow.blk (show Ow _ _ _ _ _ _ _ _ from hH2.get (n := 0) rfl) (by first | assumption | omega | (simp; done) | decide)
 refine vB (g := g3) (n := 0) Z Z Z hH2 Z hgl5 (zFr (Heap.own hH2 (n := 0) Z) hgb4 (by first | omega | (simp; done)) (by first | omega | (simp; done)) (by first | omega | (simp; done))) (fun u8 w6 hH7 hv9 => ?_)
 obtain ⟨rfl, -⟩ := hv9
 have hH10 := Heap.xZ (Heap.weaken hH7 (n := 0) Z (φ := Own 3 1 encI v (Ps.sorted (fun x y : Int => decide (x < y)) l)) (fun w' h => h.2)) (n := 0) (by rfl)
 refine zC (jT hH10 (kF Z ) (fun w' hf => ?_))
 exact ⟨Z, hf.1⟩
end Go.Fip
namespace Go.Fip
open Go.Proofs Go.RowKit
theorem c97 {bb mb : Nat} {room : Int} {v : Value} {C : List Int} {w : World} (kb : Bx bb 148 (seg [.int .i64 room, v] C [.map (some mb)]) w) (hC : C.length = 9) {l : List Int} (h0 : Rd encI 1 v l w) (hn : l.length ≤ 16) {x y i : Int} (hi : 0 ≤ i ∧ i < l.length) {b1 b2 : Nat} (k1 : Bx b1 143 [(.func (.func 92) #[(.pointer (some ⟨bb, 0, none⟩))] #[])] w) (k2 : Bx b2 3 [.int .i64 i] w)  :
  Fn Tryz.prog 97 [(.int .i64 x), (.int .i64 y), (.pointer (some ⟨b1, 0, none⟩)), (.pointer (some ⟨b2, 0, none⟩))].toArray w (fun u _ => u = .bool (decide (Sf.next l y i < Sf.next l x i))) := by
 refine fz Tryz.func97 Z kz Z Z (fun hH => (zr (oA hH Z (zt (seq (zY (fun w' => Heap [base w] w') T.mixed (fun w1 hr2 => ?_)))))))
 have hH3 := hH.redrawn hr2
 refine zK [0, 1, 2, 4, 5, 6] kz hH3 _ _ _ kz (zJ Z Z (zE T.zAl Z (fun _ hw => yM (k1.now hw (n := 0) Z) Z)) (qM Z Z Z (zJ Z Z (zE T.yU Z (fun _ hw => yM (k2.now hw (n := 0) Z) Z)) (zJ Z Z (zE T.zAl Z (fun _ hw => yM (k1.now hw (n := 0) Z) Z)) (qM Z Z Z (zJ Z Z (zE T.yU Z (fun _ hw => yM (k2.now hw (n := 0) Z) Z)) (zQ (z1 3 kz Z (zM Z Z Z hH3 (c92 (kb.now hH3 (n := 0) Z) (by first | omega | assumption | (simp only [List.length_set, List.length_replicate]; done) | (simp only [List.length_set]; omega)) (h0.now hH3 (n := 0) Z) om om) (fun w4 hH5 => (zC (⟨hH5, (z1 7 kz Z (zM Z Z Z hH5 (c92 (kb.now hH5 (n := 0) Z) (by first | omega | assumption | (simp only [List.length_set, List.length_replicate]; done) | (simp only [List.length_set]; omega)) (h0.now hH5 (n := 0) Z) om om) (fun w6 hH7 => (zC (⟨hH7, (zK [8, 9] kz hH7 _ _ _ kz (zJ Z Z (xJ Z Z) (zJ Z Z (yK Z) (zQ ?_))))⟩)))))⟩))))))))))))
 refine zX kz (zN (ret (fin hH7 (fun w' hf => (yN Z (rt Z))) (fun w' hf => Z))))
end Go.Fip
namespace Go.Fip
namespace Sf
open S (place)
abbrev lti : Int → Int → Bool := fun x y => decide (x < y)
def late (l : List Int) (i : Int) : Int → Int → Bool := fun x y => decide (next l y i < next l x i)
structure Tri where
 on : List Int
 out : List Int
 mis : List Int
def off (rule : Int) (l on : List Int) (i : Int) : Int := if rule = 3 then bestTo (late l i) (Ps.sorted lti on) (on.length - 1) else nth on 0
def rest (rule : Int) (l on : List Int) (i : Int) : List Int := (if rule = 3 then Ps.sorted lti on else on).filter fun y => !decide (y = off rule l on i)
def step (room rule : Int) (l : List Int) (s : Tri) (i : Nat) : Tri :=
 if 0 ≤ place s.on (nth l (i : Int)) then
  ⟨if rule = 2 then s.on.take (place s.on (nth l (i : Int))).toNat ++ s.on.drop ((place s.on (nth l (i : Int))).toNat + 1) ++ [nth l (i : Int)] else s.on, s.out ++ [0], s.mis⟩
 else if (s.on.length : Int) = room then ⟨rest rule l s.on i ++ [nth l (i : Int)], s.out ++ [off rule l s.on i], s.mis ++ [(i : Int)]⟩
 else ⟨s.on ++ [nth l (i : Int)], s.out ++ [0], s.mis ++ [(i : Int)]⟩
def runTo (room rule : Int) (l : List Int) : Nat → Tri
 | 0 => ⟨[], [], []⟩
 | k + 1 => step room rule l (runTo room rule l k) k
theorem run_hit2 {room rule : Int} {l : List Int} {k : Nat} (h : 0 ≤ place (runTo room rule l k).on (nth l (k : Int))) (h2 : rule = 2) : runTo room rule l (k + 1) = ⟨(runTo room rule l k).on.take (place (runTo room rule l k).on (nth l (k : Int))).toNat ++ (runTo room rule l k).on.drop ((place (runTo room rule l k).on (nth l (k : Int))).toNat + 1) ++ [nth l (k : Int)], (runTo room rule l k).out ++ [0], (runTo room rule l k).mis⟩ := by
 show step _ _ _ _ _ = _
 unfold step
 rw [if_pos h, if_pos h2]
theorem run_hit {room rule : Int} {l : List Int} {k : Nat} (h : 0 ≤ place (runTo room rule l k).on (nth l (k : Int))) (h2 : ¬ rule = 2) : runTo room rule l (k + 1) = ⟨(runTo room rule l k).on, (runTo room rule l k).out ++ [0], (runTo room rule l k).mis⟩ := by
 show step _ _ _ _ _ = _
 unfold step
 rw [if_pos h, if_neg h2]
theorem run_full {room rule : Int} {l : List Int} {k : Nat} (h : ¬ 0 ≤ place (runTo room rule l k).on (nth l (k : Int))) (h2 : ((runTo room rule l k).on.length : Int) = room) : runTo room rule l (k + 1) = ⟨rest rule l (runTo room rule l k).on k ++ [nth l (k : Int)], (runTo room rule l k).out ++ [off rule l (runTo room rule l k).on k], (runTo room rule l k).mis ++ [(k : Int)]⟩ := by
 show step _ _ _ _ _ = _
 unfold step
 rw [if_neg h, if_pos h2]
theorem run_room {room rule : Int} {l : List Int} {k : Nat} (h : ¬ 0 ≤ place (runTo room rule l k).on (nth l (k : Int))) (h2 : ¬ ((runTo room rule l k).on.length : Int) = room) : runTo room rule l (k + 1) = ⟨(runTo room rule l k).on ++ [nth l (k : Int)], (runTo room rule l k).out ++ [0], (runTo room rule l k).mis ++ [(k : Int)]⟩ := by
 show step _ _ _ _ _ = _
 unfold step
 rw [if_neg h, if_neg h2]
theorem off_3 {rule : Int} {l on : List Int} {i : Int} (h : rule = 3) : off rule l on i = bestTo (late l i) (Ps.sorted lti on) (on.length - 1) := by unfold off; rw [if_pos h]
theorem off_n {rule : Int} {l on : List Int} {i : Int} (h : ¬ rule = 3) : off rule l on i = nth on 0 := by unfold off; rw [if_neg h]
theorem rest_3 {rule : Int} {l on : List Int} {i : Int} (h : rule = 3) : rest rule l on i = (Ps.sorted lti on).filter fun y => !decide (y = off rule l on i) := by unfold rest; rw [if_pos h]
theorem rest_n {rule : Int} {l on : List Int} {i : Int} (h : ¬ rule = 3) : rest rule l on i = on.filter fun y => !decide (y = off rule l on i) := by unfold rest; rw [if_neg h]
theorem XL {p : Int → Int → Bool} {l : List Int} : ∀ {k : Nat}, k < l.length → bestTo p l k ∈ l
 | 0, h => by show nth l ((0 : Nat) : Int) ∈ l; rw [yG h]; exact List.getElem_mem h
 | k + 1, h => by
  show (if _ then _ else _) ∈ l
  split
  ·rw [yG h]; exact List.getElem_mem h
  ·exact XL (by omega)
theorem XG {rule : Int} {l on : List Int} {i : Int} (h : 1 ≤ on.length) : off rule l on i ∈ on := by
 by_cases hr : rule = 3
 ·rw [off_3 hr]
  have := XL (p := late l i) (l := Ps.sorted lti on) (k := on.length - 1) (by rw [Ps.sorted_len]; omega)
  exact (Ps.sorted_perm).mem_iff.1 this
 ·rw [off_n hr]; show nth on ((0 : Nat) : Int) ∈ on; rw [yG h]; exact List.getElem_mem h
theorem zA1 {rule : Int} {l on : List Int} {i : Int} (h : 1 ≤ on.length) : (rest rule l on i).length < on.length := by
 have hm := XG (rule := rule) (l := l) (i := i) h
 have key : ∀ (xs : List Int) (d : Int), d ∈ xs → (xs.filter fun y => !decide (y = d)).length < xs.length := fun xs d hd => by
  induction xs with
  | nil => cases hd
  | cons a xs ih =>
   have hle := List.length_filter_le (fun y => !decide (y = d)) xs
   by_cases e : a = d
   ·simp only [List.filter_cons, e, decide_true, Bool.not_true, List.length_cons]
    simp only [Bool.false_eq_true, if_false]
    omega
   ·have := ih ((List.mem_cons.1 hd).resolve_left (fun h => e h.symm))
    simp only [List.filter_cons, decide_eq_false e, Bool.not_false, if_true, List.length_cons]
    omega
 by_cases hr : rule = 3
 ·rw [rest_3 hr]
  have := key (Ps.sorted lti on) _ ((Ps.sorted_perm).mem_iff.2 hm)
  rwa [Ps.sorted_len] at this
 ·rw [rest_n hr]; exact key _ _ hm
theorem run_len {room rule : Int} {l : List Int} (hr : 1 ≤ room) : ∀ k, ((runTo room rule l k).on.length : Int) ≤ room ∧ (runTo room rule l k).out.length = k ∧ (runTo room rule l k).mis.length ≤ k
  | 0 => by show ((0 : Nat) : Int) ≤ room ∧ 0 = 0 ∧ 0 ≤ 0; omega
  | k + 1 => by
    obtain ⟨h1, h2, h3⟩ := run_len (room := room) (rule := rule) (l := l) hr k
    by_cases h : 0 ≤ place (runTo room rule l k).on (nth l (k : Int))
    · by_cases hu : rule = 2
      · have hp := S.place_lt (runTo room rule l k).on (nth l (k : Int))
        rw [run_hit2 h hu]
        simp only [List.length_append, List.length_take, List.length_drop, List.length_cons, List.length_nil]
        omega
      · rw [run_hit h hu]
        simp only [List.length_append, List.length_cons, List.length_nil]
        omega
    · by_cases hf : ((runTo room rule l k).on.length : Int) = room
      · have := zA1 (rule := rule) (l := l) (on := (runTo room rule l k).on) (i := k) (by omega)
        rw [run_full h hf]
        simp only [List.length_append, List.length_cons, List.length_nil]
        omega
      · rw [run_room h hf]
        simp only [List.length_append, List.length_cons, List.length_nil]
        omega
end Sf
end Go.Fip
namespace Go.Fip
open Go.Proofs Go.RowKit
theorem c96 {bb mb : Nat} {room : Int} {v : Value} {C : List Int} {w : World} (kb : Bx bb 148 (seg [.int .i64 room, v] C [.map (some mb)]) w) (hC : C.length = 9) {l : List Int} (h0 : Rd encI 1 v l w) (hn : l.length ≤ 16) {i : Int} (hi : 0 ≤ i ∧ i < l.length) {b1 b2 : Nat} (k1 : Bx b1 143 [(.func (.func 92) #[(.pointer (some ⟨bb, 0, none⟩))] #[])] w) (k2 : Bx b2 3 [.int .i64 i] w) {vo : Value} {o : List Int} (hO : Rd encI 1 vo o w) (ho : 1 ≤ o.length) (ho2 : o.length ≤ 1000000)  :
  Fn Tryz.prog 96 [vo, (.func (.func 97) #[] #[(.pointer (some ⟨b1, 0, none⟩)), (.pointer (some ⟨b2, 0, none⟩))])].toArray w (fun u _ => u = .int .i64 (bestTo (Sf.late l i) o (o.length - 1))) := by
 refine fz Tryz.func96 Z kz Z Z (fun hH => ?_)
 have hd : (o.drop 1).length = o.length - 1 := List.length_drop
 refine zr (oA hH Z (zs (oM hH Z (oY hH (zP T.yS Z Z (hO.now hH (n := 0) Z).is om) (oY hH (zE T.yU Z (fun _ hw => Rd.at (hO.now hw (n := 0) Z) (i := 0) om (j := 0) Z)) (oA hH Z (zt (seq (zr (oM hH Z (oY hH (x6 T.yS Z Z (hO.now hH (n := 0) Z).is om) (oY hH (z8 T.yS Z (Rd.from (hO.now hH (n := 0) Z) (lo := 1) om).is) (oM hH Z (zt ?_))))))))))))))
 refine block (loop (S := Nat) (fun k => [(14, (.int .i64 (k : Int))), (5, (.int .i64 (bestTo (Sf.late l i) o k))), (1, (.func (.func 97) #[] #[(.pointer (some ⟨b1, 0, none⟩)), (.pointer (some ⟨b2, 0, none⟩))])), (4, (.int .i64 0)), (12, (cutv vo 1 1 o.length)), (13, (.int .i64 ((o.drop 1).length : Int)))]) (fun k w1 => Heap [base w] w1 ∧ k ≤ (o.drop 1).length) (fun k => (o.drop 1).length - k) (0) (uC Z (uC Z (uC Z (uC Z (uC Z (uC Z (Sub.nil _))))))) ?_ ?_)
 ·exact ⟨hH, om⟩
 rintro k w1 ⟨hH2, hk⟩
 refine zr (oY hH2 (yL Z Z) (zt (seq ?_)))
 by_cases hc3 : (k : Int) < ((o.drop 1).length : Int)
 ·refine zO Z (dT hc3) (skip (zN (seq (block (zr (oY hH2 (zP T.yS Z Z (Rd.from (hO.now hH2 (n := 0) Z) (lo := 1) om).is om) (oY hH2 (zE T.yU Z (fun _ hw => Rd.at (Rd.from (hO.now hw (n := 0) Z) (lo := 1) om) (i := (k : Int)) om (j := 0) Z)) (oA hH2 Z (zs (oM hH2 Z (oM hH2 Z (oM hH2 Z (zM Z Z Z hH2 (c97 (kb.now hH2 (n := 0) Z) (by first | omega | assumption | (simp only [List.length_set, List.length_replicate]; done) | (simp only [List.length_set]; omega)) (h0.now hH2 (n := 0) Z) om om (k1.now hH2 (n := 0) Z) (k2.now hH2 (n := 0) Z)) (fun w4 hH5 => (zt ?_)))))))))))))))
  by_cases hc6 : Sf.late l i (nth (o.drop 1) (k : Int)) (bestTo (Sf.late l i) o k) = true
  ·have hp : Sf.late l i (nth (o.drop 1) (k : Int)) (bestTo (Sf.late l i) o k) = true := hc6
   refine zO Z hc6 (region (oM hH5 Z (oA hH5 Z (zC (yC (zN (region (oY hH5 (zV Z Z om) (oM hH5 Z (zC (y0 (k + 1) (uC Z (Sub.cons (by first | (rw [uV hp]; rfl) | (rw [vU hp]; rfl)) (uC Z (uC Z (uC Z (uC Z (Sub.nil _))))))) (⟨hH5, om⟩) om3)))))))))))
  have hp : Sf.late l i (nth (o.drop 1) (k : Int)) (bestTo (Sf.late l i) o k) = false := (Bool.eq_false_iff.2 hc6)
  refine zL Z (Bool.eq_false_iff.2 hc6) (skip (yC (zN (region (oY hH5 (zV Z Z om) (oM hH5 Z (zC (y0 (k + 1) (uC Z (Sub.cons (by first | (rw [uV hp]; rfl) | (rw [vU hp]; rfl)) (uC Z (uC Z (uC Z (uC Z (Sub.nil _))))))) (⟨hH5, om⟩) om3))))))))
 refine zL Z (dF hc3) (exit (yZ (xF (z7 (zu (oM hH2 Z (oA hH2 Z (zt (ret (fin hH2 (fun w' hf => (yN Z (rt Z))) (fun w' hf => ?_)))))))))))
 have hk2 : k = o.length - 1 := by omega
 subst hk2; rfl
end Go.Fip
namespace Go.Fip
open Go.Proofs Go.RowKit
theorem c35 {bb mb : Nat} {room : Int} {v : Value} {C : List Int} {w : World} (kb : Bx bb 148 (seg [.int .i64 room, v] C [.map (some mb)]) w) (hC : C.length = 9) {l : List Int} (h0 : Rd encI 1 v l w) (hn : l.length ≤ 16) {rule : Int} (hr : 1 ≤ room ∧ room ≤ 6)  :
  Fn Tryz.prog 35 [(.pointer (some ⟨bb, 0, none⟩)), (.int .i64 rule)].toArray w (fun u w => ∃ p q, u = .tuple #[p, q] ∧ Own 3 1 encI p (Sf.runTo room rule l l.length).out w ∧ Own 3 1 encI q (Sf.runTo room rule l l.length).mis w) := by
 refine fz Tryz.func35 Z kz Z Z (fun hH => (zr (oA hH Z (oA hH Z (zt (scope (zr (oA hH Z (oA hH Z (oA hH Z (zs (oM hH Z (oY hH (vF Z Z) (yD (z := (.nilFunc)) (fun _ => by kernel_rfl) Z Z hH (fun b1 w2 hH3 => (zS (n := 0) (j := 0) (us := [(.func (.func 92) #[(.pointer (some ⟨bb, 0, none⟩))] #[])]) Z Z hH3 Z T.zDa Z Z Z (by rfl) (fun w4 hH5 => (zC ?_))))))))))))))))))
 refine zN (seq (label (zN (seq (zr (oM hH5 Z (oY hH5 (yQ Z) (oY hH5 (zI T.vZ Z) (oY hH5 (zI T.vJ Z) (oY hH5 (xW T.xB Z (by rfl) Z (fun _ hw => (kb.now hw (n := 1) Z))) (oY hH5 (z8 T.yS Z (h0.now hH5 (n := 1) Z).is) (oM hH5 Z (zt (block ?_))))))))))))))
 have hH8 := v8 (enc := encI) 3 1 (v8 (enc := encI) 3 1 (v8 (enc := encI) 3 1 hH5))
 refine loop (S := Nat × Value × Nat × Nat × Value × Nat × Nat × Value × Nat × Nat) (fun (k, v_6, lo_6, hi_6, v_7, lo_7, hi_7, v_8, lo_8, hi_8) => [(22, (.int .i64 (k : Int))), (6, v_6), (7, v_7), (8, v_8), (0, (.pointer (some ⟨bb, 0, none⟩))), (1, (.int .i64 rule)), (4, (.slice none 0 0)), (5, (.slice none 0 0)), (9, (.pointer (some ⟨b1, 0, none⟩))), (20, v), (21, (.int .i64 (l.length : Int)))]) (fun (k, v_6, lo_6, hi_6, v_7, lo_7, hi_7, v_8, lo_8, hi_8) w1 => Heap [ow lo_8 hi_8 3 1 encI v_8 ((Sf.runTo room rule l k).on), ow lo_7 hi_7 3 1 encI v_7 ((Sf.runTo room rule l k).mis), ow lo_6 hi_6 3 1 encI v_6 ((Sf.runTo room rule l k).out), bx b1 143 [(.func (.func 92) #[(.pointer (some ⟨bb, 0, none⟩))] #[])], base w] w1 ∧ k ≤ l.length) (fun (k, v_6, lo_6, hi_6, v_7, lo_7, hi_7, v_8, lo_8, hi_8) => l.length - k) (0, (.slice none 0 0), w4.heap.size, w4.heap.size, (.slice none 0 0), w4.heap.size, w4.heap.size, (.slice none 0 0), w4.heap.size, w4.heap.size) (uC Z (uC Z (uC Z (uC Z (uC Z (uC Z (uC Z (uC Z (uC Z (uC Z (uC Z (Sub.nil _)))))))))))) ?_ ?_
 ·exact ⟨(Heap.y1 (n := 0) (Heap.y1 (n := 1) (Heap.y1 (n := 2) hH8 Z (Z)) Z (Z)) Z (Z)), om⟩
 rintro ⟨k, v_6, lo_6, hi_6, v_7, lo_7, hi_7, v_8, lo_8, hi_8⟩ w9 ⟨hH10, hk⟩
 obtain ⟨hl1, hl2, hl3⟩ := Sf.run_len (room := room) (rule := rule) (l := l) hr.1 k
 refine zr (oY hH10 (yL Z Z) (zt (seq ?_)))
 by_cases hc11 : (k : Int) < (l.length : Int)
 ·refine zO Z (dT hc11) (skip (zN (seq (block (zr (oM hH10 Z (oY hH10 (zP T.yS Z Z (h0.now hH10 (n := 4) Z).is om) (oY hH10 (zE T.yU Z (fun _ hw => Rd.at (h0.now hw (n := 4) Z) (i := (k : Int)) om (j := 0) Z)) (yD (z := (.int .i64 0)) (fun _ => by kernel_rfl) Z Z hH10 (fun b12 w13 hH14 => (zS (n := 0) (j := 0) Z Z hH14 Z T.sz3 Z Z Z (by rfl) (fun w15 hH16 => (oA hH16 Z (zt (seq (seq ?_))))))))))))))))
  have hpl := S.place_lt (Sf.runTo room rule l k).on (nth l (k : Int))
  refine region (oM hH16 Z (oM hH16 Z (zM Z Z Z hH16 (c93 (Heap.yI T.zA hH16 (n := 1) Z) om) (fun w17 hH18 => (oA hH18 Z (zs (oM hH18 Z (oY hH18 (vH Z Z) (zt ?_)))))))))
  by_cases hc19 : 0 ≤ (S.place ((Sf.runTo room rule l k).on) (nth l (k : Int)))
  ·have hat : 0 ≤ (S.place (Sf.runTo room rule l k).on (nth l (k : Int))) := by omega
   refine zO Z (dT hc19) (seq (zr (oM hH18 Z (oY hH18 (y5 Z Z) (zt ?_)))))
   by_cases hc20 : rule = 2
   ·have hr2 : rule = 2 := by omega
    have htd : ((Sf.runTo room rule l k).on.take (S.place (Sf.runTo room rule l k).on (nth l (k : Int))).toNat).length = (S.place (Sf.runTo room rule l k).on (nth l (k : Int))).toNat := by rw [List.length_take]; omega
    have hdd : ((Sf.runTo room rule l k).on.drop ((S.place (Sf.runTo room rule l k).on (nth l (k : Int))).toNat + 1)).length = (Sf.runTo room rule l k).on.length - ((S.place (Sf.runTo room rule l k).on (nth l (k : Int))).toNat + 1) := List.length_drop
    refine zO Z (dT hc20) (region (oM hH18 Z (oY hH18 (vN (show (S.place (Sf.runTo room rule l k).on (nth l (k : Int))) = (((S.place (Sf.runTo room rule l k).on (nth l (k : Int))).toNat : Nat) : Int) by omega) (yX Z)) (oM hH18 Z (oY hH18 (vN (show (S.place (Sf.runTo room rule l k).on (nth l (k : Int))) + 1 = (((S.place (Sf.runTo room rule l k).on (nth l (k : Int))).toNat + 1 : Nat) : Int) by omega) (zV Z Z om)) ?_)))))
    obtain ⟨g21, hgb22, hgl23⟩ := Ow.blk (show Ow _ _ _ _ _ _ _ _ from hH18.get (n := 1) rfl) (by first | assumption | omega)
    refine vB (g := g21) (n := 1) Z Z Z hH18 Z hgl23 ((c94 (i := (S.place (Sf.runTo room rule l k).on (nth l (k : Int))).toNat) (j := ((S.place (Sf.runTo room rule l k).on (nth l (k : Int))).toNat + 1)) (Heap.own hH18 (n := 1) Z) hgb22 om om om)) (fun u26 w24 hH25 hv27 => ?_)
    have hH28 := Heap.xZ hH25 (n := 1) Z
    refine oM hH28 Z (z2 T.zA [nth l (k : Int)] Z (fun w => by kernel_rfl) hH28 (fun u29 lo31 hi32 w30 hH33 => (yB (n := 2) T.zA Z Z Z hH33 Z (Heap.yI T.zA hH33 (n := 0) Z) om2 (fun u34 lo36 hi37 w35 hH38 => (oA hH38 Z (zs (oM hH38 Z (z2 T.zA [0] Z (fun w => by kernel_rfl) hH38 (fun u39 lo41 hi42 w40 hH43 => (yB (n := 5) T.zA Z Z Z hH43 Z (Heap.yI T.zA hH43 (n := 0) Z) om2 (fun u44 lo46 hi47 w45 hH48 => (oA hH48 Z (zt (exit (yZ (z7 (zN (region (oY hH48 (zV Z Z om) (oM hH48 Z (zC ?_)))))))))))))))))))))
    refine y0 (k + 1, u44, lo46, hi47, v_7, lo_7, hi_7, u34, lo36, hi37) (uC Z (uC Z (uC Z (uC Z (uC Z (uC Z (uC Z (uC Z (uC Z (uC Z (uC Z (Sub.nil _)))))))))))) (⟨(Heap.y1 (n := 0) (Heap.y1 (n := 1) (Heap.y1 (n := 2) (hH48.sub (sC (sC (sC sR)))) Z (by first | (rw [Sf.run_hit2 hat hr2]; done) | (rw [Sf.run_hit hat hr2]; done) | (rw [Sf.run_room hna hnf]; done) | (rw [Ps.sorted_len, ← Sf.off_3 hr3, ← Sf.rest_3 hr3, Sf.run_full hna hf]; done) | (rw [Ps.sorted_len, ← Sf.off_3 hr3, Sf.run_full hna hf]; done) | (rw [← Sf.off_n hr3 (l := l) (i := (k : Int)), ← Sf.rest_n hr3, Sf.run_full hna hf]; done) | (rw [← Sf.off_n hr3 (l := l) (i := (k : Int)), Sf.run_full hna hf]; done) | (rw [Sf.run_full hna hf]; done))) Z (by first | (rw [Sf.run_hit2 hat hr2]; done) | (rw [Sf.run_hit hat hr2]; done) | (rw [Sf.run_room hna hnf]; done) | (rw [Ps.sorted_len, ← Sf.off_3 hr3, ← Sf.rest_3 hr3, Sf.run_full hna hf]; done) | (rw [Ps.sorted_len, ← Sf.off_3 hr3, Sf.run_full hna hf]; done) | (rw [← Sf.off_n hr3 (l := l) (i := (k : Int)), ← Sf.rest_n hr3, Sf.run_full hna hf]; done) | (rw [← Sf.off_n hr3 (l := l) (i := (k : Int)), Sf.run_full hna hf]; done) | (rw [Sf.run_full hna hf]; done))) Z (by first | (rw [Sf.run_hit2 hat hr2]; done) | (rw [Sf.run_hit hat hr2]; done) | (rw [Sf.run_room hna hnf]; done) | (rw [Ps.sorted_len, ← Sf.off_3 hr3, ← Sf.rest_3 hr3, Sf.run_full hna hf]; done) | (rw [Ps.sorted_len, ← Sf.off_3 hr3, Sf.run_full hna hf]; done) | (rw [← Sf.off_n hr3 (l := l) (i := (k : Int)), ← Sf.rest_n hr3, Sf.run_full hna hf]; done) | (rw [← Sf.off_n hr3 (l := l) (i := (k : Int)), Sf.run_full hna hf]; done) | (rw [Sf.run_full hna hf]; done))), om⟩) om3
   have hr2 : ¬ rule = 2 := by omega
   refine zL Z (dF hc20) (skip (zu (oM hH18 Z (z2 T.zA [0] Z (fun w => by kernel_rfl) hH18 (fun u50 lo52 hi53 w51 hH54 => (yB (n := 4) T.zA Z Z Z hH54 Z (Heap.yI T.zA hH54 (n := 0) Z) om2 (fun u55 lo57 hi58 w56 hH59 => (oA hH59 Z (zt (exit (yZ (z7 (zN (region (oY hH59 (zV Z Z om) (oM hH59 Z (zC (y0 (k + 1, u55, lo57, hi58, v_7, lo_7, hi_7, v_8, lo_8, hi_8) (uC Z (uC Z (uC Z (uC Z (uC Z (uC Z (uC Z (uC Z (uC Z (uC Z (uC Z (Sub.nil _)))))))))))) (⟨(Heap.y1 (n := 0) (Heap.y1 (n := 1) (Heap.y1 (n := 2) (hH59.sub (sC (sC sR))) Z (by first | (rw [Sf.run_hit2 hat hr2]; done) | (rw [Sf.run_hit hat hr2]; done) | (rw [Sf.run_room hna hnf]; done) | (rw [Ps.sorted_len, ← Sf.off_3 hr3, ← Sf.rest_3 hr3, Sf.run_full hna hf]; done) | (rw [Ps.sorted_len, ← Sf.off_3 hr3, Sf.run_full hna hf]; done) | (rw [← Sf.off_n hr3 (l := l) (i := (k : Int)), ← Sf.rest_n hr3, Sf.run_full hna hf]; done) | (rw [← Sf.off_n hr3 (l := l) (i := (k : Int)), Sf.run_full hna hf]; done) | (rw [Sf.run_full hna hf]; done))) Z (by first | (rw [Sf.run_hit2 hat hr2]; done) | (rw [Sf.run_hit hat hr2]; done) | (rw [Sf.run_room hna hnf]; done) | (rw [Ps.sorted_len, ← Sf.off_3 hr3, ← Sf.rest_3 hr3, Sf.run_full hna hf]; done) | (rw [Ps.sorted_len, ← Sf.off_3 hr3, Sf.run_full hna hf]; done) | (rw [← Sf.off_n hr3 (l := l) (i := (k : Int)), ← Sf.rest_n hr3, Sf.run_full hna hf]; done) | (rw [← Sf.off_n hr3 (l := l) (i := (k : Int)), Sf.run_full hna hf]; done) | (rw [Sf.run_full hna hf]; done))) Z (by first | (rw [Sf.run_hit2 hat hr2]; done) | (rw [Sf.run_hit hat hr2]; done) | (rw [Sf.run_room hna hnf]; done) | (rw [Ps.sorted_len, ← Sf.off_3 hr3, ← Sf.rest_3 hr3, Sf.run_full hna hf]; done) | (rw [Ps.sorted_len, ← Sf.off_3 hr3, Sf.run_full hna hf]; done) | (rw [← Sf.off_n hr3 (l := l) (i := (k : Int)), ← Sf.rest_n hr3, Sf.run_full hna hf]; done) | (rw [← Sf.off_n hr3 (l := l) (i := (k : Int)), Sf.run_full hna hf]; done) | (rw [Sf.run_full hna hf]; done))), om⟩) om3))))))))))))))))))
  have hna : ¬ 0 ≤ (S.place (Sf.runTo room rule l k).on (nth l (k : Int))) := by omega
  refine zL Z (dF hc19) (skip (zu (oM hH18 Z (oY hH18 (zE T.yU Z (cw (n := 0) Z Z)) (z2 T.zA [(k : Int)] Z (fun w => by kernel_rfl) hH18 (fun u61 lo63 hi64 w62 hH65 => (yB (n := 3) T.zA Z Z Z hH65 Z (Heap.yI T.zA hH65 (n := 0) Z) om2 (fun u66 lo68 hi69 w67 hH70 => (oA hH70 Z (zs (yD (z := (.int .i64 0)) (fun _ => by kernel_rfl) Z Z hH70 (fun b71 w72 hH73 => (zS (n := 0) (j := 0) Z Z hH73 Z T.sz3 Z Z Z (by rfl) (fun w74 hH75 => (zt (seq (zr (oM hH75 Z ?_))))))))))))))))))
  refine oY hH75 (z8 T.yS Z (Heap.yI T.zA hH75 (n := 3) Z).is) (oM hH75 Z (oY hH75 (yQ Z) (oY hH75 (zI T.vZ Z) (oY hH75 (zI T.YS Z) (oY hH75 (xW T.yU Z (by rfl) Z (fun _ hw => (kb.now hw (n := 7) Z))) (oY hH75 (y5 Z Z) (zt ?_)))))))
  by_cases hc76 : (((Sf.runTo room rule l k).on).length : Int) = room
  ·have hf : ((Sf.runTo room rule l k).on.length : Int) = room := by omega
   refine zO Z (dT hc76) (zr (oM hH75 Z (oY hH75 (zP T.yS Z Z (Heap.yI T.zA hH75 (n := 3) Z).is om) (oY hH75 (zE T.yU Z (fun _ hw => Rd.at (Heap.yI T.zA hw (n := 3) Z) (i := 0) om (j := 0) Z)) (zS (n := 0) (j := 0) Z Z hH75 Z T.sz3 Z Z Z (by rfl) (fun w77 hH78 => (zt (seq (zr (oM hH78 Z (oY hH78 (y5 Z Z) (zt ?_))))))))))))
   by_cases hc79 : rule = 3
   ·have hr3 : rule = 3 := by omega
    have hsl : (Ps.sorted (fun x y : Int => decide (x < y)) (Sf.runTo room rule l k).on).length = (Sf.runTo room rule l k).on.length := Ps.sorted_len
    refine zO Z (dT hc79) (zr (oM hH78 Z ?_))
    obtain ⟨g80, hgb81, hgl82⟩ := Ow.blk (show Ow _ _ _ _ _ _ _ _ from hH78.get (n := 3) rfl) (by first | assumption | omega | (simp; done) | decide)
    refine vB (g := g80) (n := 3) Z Z Z hH78 Z hgl82 (c95 (Heap.own hH78 (n := 3) Z) hgb81 (by first | omega | (simp; done)) (by first | omega | (simp; done))) (fun u85 w83 hH84 hv86 => ?_)
    obtain ⟨rfl, -⟩ := hv86
    have hH87 := Heap.xZ (Heap.weaken hH84 (n := 3) Z (φ := Own 3 1 encI v_8 (Ps.sorted (fun x y : Int => decide (x < y)) ((Sf.runTo room rule l k).on))) (fun w' h => h.2)) (n := 3) (by rfl)
    refine zq (oM hH87 Z (oY hH87 (vF Z Z) (zM Z Z Z hH87 (c96 (kb.now hH87 (n := 7) Z) (by first | omega | assumption | (simp only [List.length_set, List.length_replicate]; done) | (simp only [List.length_set]; omega)) (h0.now hH87 (n := 7) Z) om om (Heap.xV hH87 (n := 6) Z) (Heap.xV hH87 (n := 2) Z) (Heap.yI T.zA hH87 (n := 3) Z) (by first | omega | (rw [Ps.sorted_len]; omega)) (by first | omega | (rw [Ps.sorted_len]; omega))) (fun w88 hH89 => (zS (n := 0) (j := 0) Z Z hH89 Z T.sz3 Z Z Z (by rfl) (fun w90 hH91 => (zq (oM hH91 Z (oY hH91 (vF Z Z) ?_)))))))))
    obtain ⟨g92, hgb93, hgl94⟩ := Ow.blk (show Ow _ _ _ _ _ _ _ _ from hH91.get (n := 3) rfl) (by first | assumption | omega)
    refine vB (g := g92) (n := 3) Z Z Z hH91 Z hgl94 (zDy (Heap.own hH91 (n := 3) Z) hgb93 (Heap.xV hH91 (n := 0) Z) (Heap.ne hH91 (n := 3) (m := 0) Z Z hgl94 (by decide)) om) (fun u97 w95 hH96 hv98 => ?_)
    have hH99 := Heap.xZ hH96 (n := 3) Z
    refine oA hH99 Z (zs (oM hH99 Z (oM hH99 Z (z2 T.zA [nth l (k : Int)] Z (fun w => by kernel_rfl) hH99 (fun u100 lo102 hi103 w101 hH104 => (yB (n := 4) T.zA Z Z Z hH104 Z (Heap.yI T.zA hH104 (n := 0) Z) (by first | omega | (simp only [List.length_append, List.length_cons, List.length_nil]; omega) | (refine Nat.le_trans (Nat.add_le_add_right (List.length_filter_le _ _) _) ?_; simp only [List.length_cons, List.length_nil]; omega)) (fun u105 lo107 hi108 w106 hH109 => ?_)))))))
    refine oA hH109 Z (zq (oM hH109 Z (oY hH109 (zE T.yU Z (cw (n := 1) Z Z)) (z2 T.zA [(bestTo (Sf.late l (k : Int)) (Ps.sorted (fun x y : Int => decide (x < y)) ((Sf.runTo room rule l k).on)) ((Ps.sorted (fun x y : Int => decide (x < y)) ((Sf.runTo room rule l k).on)).length - 1))] Z (fun w => by kernel_rfl) hH109 (fun u110 lo112 hi113 w111 hH114 => (yB (n := 7) T.zA Z Z Z hH114 Z (Heap.yI T.zA hH114 (n := 0) Z) om2 (fun u115 lo117 hi118 w116 hH119 => (oA hH119 Z (zC (yC (zN (region (oY hH119 (zV Z Z om) (oM hH119 Z (zC (y0 (k + 1, u115, lo117, hi118, u66, lo68, hi69, u105, lo107, hi108) (uC Z (uC Z (uC Z (uC Z (uC Z (uC Z (uC Z (uC Z (uC Z (uC Z (uC Z (Sub.nil _)))))))))))) (⟨(Heap.y1 (n := 0) (Heap.y1 (n := 1) (Heap.y1 (n := 2) (hH119.sub (sC (sC (sC (sC (sC sR)))))) Z (by first | (rw [Sf.run_hit2 hat hr2]; done) | (rw [Sf.run_hit hat hr2]; done) | (rw [Sf.run_room hna hnf]; done) | (rw [Ps.sorted_len, ← Sf.off_3 hr3, ← Sf.rest_3 hr3, Sf.run_full hna hf]; done) | (rw [Ps.sorted_len, ← Sf.off_3 hr3, Sf.run_full hna hf]; done) | (rw [← Sf.off_n hr3 (l := l) (i := (k : Int)), ← Sf.rest_n hr3, Sf.run_full hna hf]; done) | (rw [← Sf.off_n hr3 (l := l) (i := (k : Int)), Sf.run_full hna hf]; done) | (rw [Sf.run_full hna hf]; done))) Z (by first | (rw [Sf.run_hit2 hat hr2]; done) | (rw [Sf.run_hit hat hr2]; done) | (rw [Sf.run_room hna hnf]; done) | (rw [Ps.sorted_len, ← Sf.off_3 hr3, ← Sf.rest_3 hr3, Sf.run_full hna hf]; done) | (rw [Ps.sorted_len, ← Sf.off_3 hr3, Sf.run_full hna hf]; done) | (rw [← Sf.off_n hr3 (l := l) (i := (k : Int)), ← Sf.rest_n hr3, Sf.run_full hna hf]; done) | (rw [← Sf.off_n hr3 (l := l) (i := (k : Int)), Sf.run_full hna hf]; done) | (rw [Sf.run_full hna hf]; done))) Z (by first | (rw [Sf.run_hit2 hat hr2]; done) | (rw [Sf.run_hit hat hr2]; done) | (rw [Sf.run_room hna hnf]; done) | (rw [Ps.sorted_len, ← Sf.off_3 hr3, ← Sf.rest_3 hr3, Sf.run_full hna hf]; done) | (rw [Ps.sorted_len, ← Sf.off_3 hr3, Sf.run_full hna hf]; done) | (rw [← Sf.off_n hr3 (l := l) (i := (k : Int)), ← Sf.rest_n hr3, Sf.run_full hna hf]; done) | (rw [← Sf.off_n hr3 (l := l) (i := (k : Int)), Sf.run_full hna hf]; done) | (rw [Sf.run_full hna hf]; done))), om⟩) om3))))))))))))))))
   have hr3 : ¬ rule = 3 := by omega
   refine zL Z (dF hc79) (skip (zN (region (oM hH78 Z (oY hH78 (vF Z Z) ?_)))))
   obtain ⟨g121, hgb122, hgl123⟩ := Ow.blk (show Ow _ _ _ _ _ _ _ _ from hH78.get (n := 3) rfl) (by first | assumption | omega)
   refine vB (g := g121) (n := 3) Z Z Z hH78 Z hgl123 (zDy (Heap.own hH78 (n := 3) Z) hgb122 (Heap.xV hH78 (n := 0) Z) (Heap.ne hH78 (n := 3) (m := 0) Z Z hgl123 (by decide)) om) (fun u126 w124 hH125 hv127 => ?_)
   have hH128 := Heap.xZ hH125 (n := 3) Z
   refine oA hH128 Z (zs (oM hH128 Z (oM hH128 Z (z2 T.zA [nth l (k : Int)] Z (fun w => by kernel_rfl) hH128 (fun u129 lo131 hi132 w130 hH133 => (yB (n := 4) T.zA Z Z Z hH133 Z (Heap.yI T.zA hH133 (n := 0) Z) (by first | omega | (simp only [List.length_append, List.length_cons, List.length_nil]; omega) | (refine Nat.le_trans (Nat.add_le_add_right (List.length_filter_le _ _) _) ?_; simp only [List.length_cons, List.length_nil]; omega)) (fun u134 lo136 hi137 w135 hH138 => ?_)))))))
   refine oA hH138 Z (zq (oM hH138 Z (oY hH138 (zE T.yU Z (cw (n := 1) Z Z)) (z2 T.zA [nth ((Sf.runTo room rule l k).on) 0] Z (fun w => by kernel_rfl) hH138 (fun u139 lo141 hi142 w140 hH143 => (yB (n := 7) T.zA Z Z Z hH143 Z (Heap.yI T.zA hH143 (n := 0) Z) om2 (fun u144 lo146 hi147 w145 hH148 => (oA hH148 Z (zC (yC (zN (region (oY hH148 (zV Z Z om) (oM hH148 Z (zC (y0 (k + 1, u144, lo146, hi147, u66, lo68, hi69, u134, lo136, hi137) (uC Z (uC Z (uC Z (uC Z (uC Z (uC Z (uC Z (uC Z (uC Z (uC Z (uC Z (Sub.nil _)))))))))))) (⟨(Heap.y1 (n := 0) (Heap.y1 (n := 1) (Heap.y1 (n := 2) (hH148.sub (sC (sC (sC (sC (sC sR)))))) Z (by first | (rw [Sf.run_hit2 hat hr2]; done) | (rw [Sf.run_hit hat hr2]; done) | (rw [Sf.run_room hna hnf]; done) | (rw [Ps.sorted_len, ← Sf.off_3 hr3, ← Sf.rest_3 hr3, Sf.run_full hna hf]; done) | (rw [Ps.sorted_len, ← Sf.off_3 hr3, Sf.run_full hna hf]; done) | (rw [← Sf.off_n hr3 (l := l) (i := (k : Int)), ← Sf.rest_n hr3, Sf.run_full hna hf]; done) | (rw [← Sf.off_n hr3 (l := l) (i := (k : Int)), Sf.run_full hna hf]; done) | (rw [Sf.run_full hna hf]; done))) Z (by first | (rw [Sf.run_hit2 hat hr2]; done) | (rw [Sf.run_hit hat hr2]; done) | (rw [Sf.run_room hna hnf]; done) | (rw [Ps.sorted_len, ← Sf.off_3 hr3, ← Sf.rest_3 hr3, Sf.run_full hna hf]; done) | (rw [Ps.sorted_len, ← Sf.off_3 hr3, Sf.run_full hna hf]; done) | (rw [← Sf.off_n hr3 (l := l) (i := (k : Int)), ← Sf.rest_n hr3, Sf.run_full hna hf]; done) | (rw [← Sf.off_n hr3 (l := l) (i := (k : Int)), Sf.run_full hna hf]; done) | (rw [Sf.run_full hna hf]; done))) Z (by first | (rw [Sf.run_hit2 hat hr2]; done) | (rw [Sf.run_hit hat hr2]; done) | (rw [Sf.run_room hna hnf]; done) | (rw [Ps.sorted_len, ← Sf.off_3 hr3, ← Sf.rest_3 hr3, Sf.run_full hna hf]; done) | (rw [Ps.sorted_len, ← Sf.off_3 hr3, Sf.run_full hna hf]; done) | (rw [← Sf.off_n hr3 (l := l) (i := (k : Int)), ← Sf.rest_n hr3, Sf.run_full hna hf]; done) | (rw [← Sf.off_n hr3 (l := l) (i := (k : Int)), Sf.run_full hna hf]; done) | (rw [Sf.run_full hna hf]; done))), om⟩) om3))))))))))))))))
  have hnf : ¬ ((Sf.runTo room rule l k).on.length : Int) = room := by omega
  refine zL Z (dF hc76) (skip (zu (oM hH75 Z (oM hH75 Z (z2 T.zA [nth l (k : Int)] Z (fun w => by kernel_rfl) hH75 (fun u150 lo152 hi153 w151 hH154 => (yB (n := 4) T.zA Z Z Z hH154 Z (Heap.yI T.zA hH154 (n := 0) Z) (by first | omega | (simp only [List.length_append, List.length_cons, List.length_nil]; omega) | (refine Nat.le_trans (Nat.add_le_add_right (List.length_filter_le _ _) _) ?_; simp only [List.length_cons, List.length_nil]; omega)) (fun u155 lo157 hi158 w156 hH159 => ?_))))))))
  refine oA hH159 Z (zq (oM hH159 Z (oY hH159 (zE T.yU Z (cw (n := 1) Z Z)) (z2 T.zA [0] Z (fun w => by kernel_rfl) hH159 (fun u160 lo162 hi163 w161 hH164 => (yB (n := 7) T.zA Z Z Z hH164 Z (Heap.yI T.zA hH164 (n := 0) Z) om2 (fun u165 lo167 hi168 w166 hH169 => (oA hH169 Z (zC (yC (zN (region (oY hH169 (zV Z Z om) (oM hH169 Z (zC (y0 (k + 1, u165, lo167, hi168, u66, lo68, hi69, u155, lo157, hi158) (uC Z (uC Z (uC Z (uC Z (uC Z (uC Z (uC Z (uC Z (uC Z (uC Z (uC Z (Sub.nil _)))))))))))) (⟨(Heap.y1 (n := 0) (Heap.y1 (n := 1) (Heap.y1 (n := 2) (hH169.sub (sC (sC (sC (sC (sC sR)))))) Z (by first | (rw [Sf.run_hit2 hat hr2]; done) | (rw [Sf.run_hit hat hr2]; done) | (rw [Sf.run_room hna hnf]; done) | (rw [Ps.sorted_len, ← Sf.off_3 hr3, ← Sf.rest_3 hr3, Sf.run_full hna hf]; done) | (rw [Ps.sorted_len, ← Sf.off_3 hr3, Sf.run_full hna hf]; done) | (rw [← Sf.off_n hr3 (l := l) (i := (k : Int)), ← Sf.rest_n hr3, Sf.run_full hna hf]; done) | (rw [← Sf.off_n hr3 (l := l) (i := (k : Int)), Sf.run_full hna hf]; done) | (rw [Sf.run_full hna hf]; done))) Z (by first | (rw [Sf.run_hit2 hat hr2]; done) | (rw [Sf.run_hit hat hr2]; done) | (rw [Sf.run_room hna hnf]; done) | (rw [Ps.sorted_len, ← Sf.off_3 hr3, ← Sf.rest_3 hr3, Sf.run_full hna hf]; done) | (rw [Ps.sorted_len, ← Sf.off_3 hr3, Sf.run_full hna hf]; done) | (rw [← Sf.off_n hr3 (l := l) (i := (k : Int)), ← Sf.rest_n hr3, Sf.run_full hna hf]; done) | (rw [← Sf.off_n hr3 (l := l) (i := (k : Int)), Sf.run_full hna hf]; done) | (rw [Sf.run_full hna hf]; done))) Z (by first | (rw [Sf.run_hit2 hat hr2]; done) | (rw [Sf.run_hit hat hr2]; done) | (rw [Sf.run_room hna hnf]; done) | (rw [Ps.sorted_len, ← Sf.off_3 hr3, ← Sf.rest_3 hr3, Sf.run_full hna hf]; done) | (rw [Ps.sorted_len, ← Sf.off_3 hr3, Sf.run_full hna hf]; done) | (rw [← Sf.off_n hr3 (l := l) (i := (k : Int)), ← Sf.rest_n hr3, Sf.run_full hna hf]; done) | (rw [← Sf.off_n hr3 (l := l) (i := (k : Int)), Sf.run_full hna hf]; done) | (rw [Sf.run_full hna hf]; done))), om⟩) om3))))))))))))))))
 refine zL Z (dF hc11) (exit (yZ (xF (z7 (zu (oM hH10 Z (oM hH10 Z (oA hH10 Z (oA hH10 Z (zt (ret (zBf (fin ((hH10.sub (sC (sK (sK (sC sR))))).front (n := 2) Z) (fun w' hf => (xI Z (rt Z) (rt Z))) (fun w' hf => ?_))))))))))))))
 have hk2 : k = l.length := by omega
 subst hk2; exact ⟨_, _, rfl, Heap.own hf (n := 1) rfl, Heap.own hf (n := 0) rfl⟩
end Go.Fip
namespace Go.Fip
open Go.Proofs Go.RowKit
theorem zEn {v : Value} {l : List Int} {room : Int} {w : World} (h0 : Rd encI 1 v l w) (hn : l.length ≤ 1000000) {rule : Int} (hc : Sf.ck room l = 0) (hr : 1 ≤ rule ∧ rule ≤ 3)  :
  Fn Tryz.prog 52 [(.agg #[(.int .i64 room), v]), (.int .i64 rule)].toArray w (fun u w => ∃ q, u = .tuple #[q, .int .i64 0] ∧ Own 3 1 encI q (Sf.runTo room rule l l.length).out w) := by
 refine fz Tryz.func52 Z kz Z Z (fun hH => ?_)
 have hday := Sf.ck_iff.1 hc
 have hd1 := hday.r1
 have hd2 := hday.r2
 have hd3 := hday.n
 obtain ⟨hl1, hl2, hl3⟩ := Sf.run_len (room := room) (rule := rule) (l := l) hd1 l.length
 have hrp : (List.replicate ((((Sf.runTo room rule l l.length).mis.length : Nat) : Int)).toNat (0 : Int)).length = (Sf.runTo room rule l l.length).mis.length := by simp
 refine zr (yY Z Z Z hH (fun b1 w2 hH3 => (oA hH3 Z (oA hH3 Z (zs (oY hH3 (zW (cs := [(.int .i64 room), v]) T.x3 Z Z (fun _ hw => Heap.yH hw (n := 0) Z (k := 0) Z)) (oM hH3 Z (yV Z Z Z hH3 (zD1 (rule := rule) (h0.now hH3 (n := 1) Z) om hc hr) (fun u6 w4 lo7 hi8 hH5 hv9 => ?_)))))))))
 obtain ⟨bbD11, hu, hrowD11⟩ := hv9
 subst hu
 obtain ⟨mbD11, mmD11, hfullD11, hH10⟩ := Heap.VK hH5 (n := 0) rfl (fun w' h => by obtain ⟨rb', e, h⟩ := h; cases e; exact h)
 refine oM hH10 Z (oY hH10 (zH Z Z) (oY hH10 (zH Z Z) (oA hH10 Z (oA hH10 Z (zt (seq (zr (oM hH10 Z (oY hH10 (yF Z Z) (zt (zL Z Z (skip (zu (oM hH10 Z (oM hH10 Z (yV Z Z Z hH10 (c35 (rule := rule) (Heap.xV hH10 (n := 1) Z) (by first | omega | assumption | (simp only [List.length_set, List.length_replicate]; done) | (simp only [List.length_set]; omega)) (h0.now hH10 (n := 3) Z) om ⟨om, om⟩) (fun u14 w12 lo15 hi16 hH13 hv17 => ?_)))))))))))))))))
 obtain ⟨pR18, qR18, hu, -, -⟩ := hv17
 subst hu
 have hH20 := Heap.xZ (Heap.weaken hH13 (n := 0) Z (φ := Own 3 1 encI pR18 (Sf.runTo room rule l l.length).out) (fun w' h => by obtain ⟨p', q', e, h1, h2⟩ := h; cases e; exact h1)) (n := 0) (by rfl)
 refine oM hH20 Z (oY hH20 (zH Z Z) (oY hH20 (zH Z Z) (oA hH20 Z (oA hH20 Z (zs (oM hH20 Z (oA hH20 Z (oA hH20 Z (zt (ret (fin ((hH20.sub (sK (sC (sC (sC sR))))).front (n := 1) Z) (fun w' hf => (xI Z (rt Z) (rt Z))) (fun w' hf => ?_))))))))))))
 exact ⟨_, Z, Heap.own hf (n := 0) Z⟩
theorem J9 {v : Value} {l : List Int} {room : Int} {w : World} (h0 : Rd encI 1 v l w) (hn : l.length ≤ 1000000) {rule : Int} (hc : Sf.ck room l = 0) (hr : 1 ≤ rule ∧ rule ≤ 3)  :
  Fn Tryz.prog 14 [(.agg #[(.int .i64 room), v]), (.int .i64 rule)].toArray w (fun u w => ∃ q, u = .tuple #[q, .int .i64 0] ∧ Own 3 1 encI q (Sf.runTo room rule l l.length).mis w) := by
 refine fz Tryz.func14 Z kz Z Z (fun hH => ?_)
 have hday := Sf.ck_iff.1 hc
 have hd1 := hday.r1
 have hd2 := hday.r2
 have hd3 := hday.n
 obtain ⟨hl1, hl2, hl3⟩ := Sf.run_len (room := room) (rule := rule) (l := l) hd1 l.length
 have hrp : (List.replicate ((((Sf.runTo room rule l l.length).mis.length : Nat) : Int)).toNat (0 : Int)).length = (Sf.runTo room rule l l.length).mis.length := by simp
 refine zr (yY Z Z Z hH (fun b1 w2 hH3 => (oA hH3 Z (oA hH3 Z (zs (oY hH3 (zW (cs := [(.int .i64 room), v]) T.x3 Z Z (fun _ hw => Heap.yH hw (n := 0) Z (k := 0) Z)) (oM hH3 Z (yV Z Z Z hH3 (zD1 (rule := rule) (h0.now hH3 (n := 1) Z) om hc hr) (fun u6 w4 lo7 hi8 hH5 hv9 => ?_)))))))))
 obtain ⟨bbD11, hu, hrowD11⟩ := hv9
 subst hu
 obtain ⟨mbD11, mmD11, hfullD11, hH10⟩ := Heap.VK hH5 (n := 0) rfl (fun w' h => by obtain ⟨rb', e, h⟩ := h; cases e; exact h)
 refine oM hH10 Z (oY hH10 (zH Z Z) (oY hH10 (zH Z Z) (oA hH10 Z (oA hH10 Z (zt (seq (zr (oM hH10 Z (oY hH10 (yF Z Z) (zt (zL Z Z (skip (zu (oM hH10 Z (oM hH10 Z (yV Z Z Z hH10 (c35 (rule := rule) (Heap.xV hH10 (n := 1) Z) (by first | omega | assumption | (simp only [List.length_set, List.length_replicate]; done) | (simp only [List.length_set]; omega)) (h0.now hH10 (n := 3) Z) om ⟨om, om⟩) (fun u14 w12 lo15 hi16 hH13 hv17 => ?_)))))))))))))))))
 obtain ⟨pR18, qR18, hu, -, -⟩ := hv17
 subst hu
 have hH20 := Heap.xZ (Heap.weaken hH13 (n := 0) Z (φ := Own 3 1 encI qR18 (Sf.runTo room rule l l.length).mis) (fun w' h => by obtain ⟨p', q', e, h1, h2⟩ := h; cases e; exact h2)) (n := 0) (by rfl)
 refine oM hH20 Z (oY hH20 (zH Z Z) (oY hH20 (zH Z Z) (oA hH20 Z (oA hH20 Z (zs (oM hH20 Z (oY hH20 (z8 T.yS Z (Heap.yI T.zA hH20 (n := 0) Z).is) (jA T.zA (0 : Int) T.uU Z Z Z hH20 om om (fun u21 lo23 hi24 w22 hH25 => (oA hH25 Z (zs (oM hH25 Z (oM hH25 Z (WT (n := 0) T.zA Z Z Z hH25 Z (Heap.yI T.zA hH25 (n := 1) Z) om (fun w26 hH27 => (zt ?_))))))))))))))))
 refine zr (oM hH27 Z (oA hH27 Z (oA hH27 Z (zt (ret (fin ((hH27.sub (sK (sC (sC (sC (sC sR)))))).front (n := 1) Z) (fun w' hf => (xI Z (rt Z) (rt Z))) (fun w' hf => ?_)))))))
 exact ⟨_, Z, by have h := Heap.own hf (n := 0) rfl; simpa using h⟩
theorem zFi {v : Value} {l : List Int} {room : Int} {w : World} (h0 : Rd encI 1 v l w) (hn : l.length ≤ 1000000) {rule : Int} (hc : ¬ Sf.ck room l = 0)  :
  Fn Tryz.prog 14 [(.agg #[(.int .i64 room), v]), (.int .i64 rule)].toArray w (fun u _ => u = .tuple #[.slice none 0 0, .int .i64 (Sf.ck room l)]) := by
 refine fz Tryz.func14 Z kz Z Z (fun hH => (zr (yY Z Z Z hH (fun b1 w2 hH3 => (oA hH3 Z (oA hH3 Z (zs (oY hH3 (zW (cs := [(.int .i64 room), v]) T.x3 Z Z (fun _ hw => Heap.yH hw (n := 0) Z (k := 0) Z)) (oM hH3 Z (zM Z Z Z hH3 (zFc (rule := rule) (h0.now hH3 (n := 1) Z) om hc) (fun w4 hH5 => (oM hH5 Z (oY hH5 (zH Z Z) (oY hH5 (zH Z Z) (oA hH5 Z (oA hH5 Z (zt (seq (seq ?_)))))))))))))))))))
 refine region (oM hH5 Z (oY hH5 (yF Z Z) (zt ?_)))
 have hc6 : ¬ ((Sf.ck room l) = 0) := hc
 refine zO Z (zF hc6) (zr (oM hH5 Z (oA hH5 Z (oA hH5 Z (zt (ret (z6 (fin (hH5.sub (sC sR)) (fun w' hf => (xI Z (rt Z) (rt Z))) (fun w' hf => Z)))))))))
theorem zE2 {v : Value} {l : List Int} {room : Int} {w : World} (h0 : Rd encI 1 v l w) (hn : l.length ≤ 1000000) {rule : Int} (hc : Sf.ck room l = 0) (hr : ¬ (1 ≤ rule ∧ rule ≤ 3))  :
  Fn Tryz.prog 14 [(.agg #[(.int .i64 room), v]), (.int .i64 rule)].toArray w (fun u _ => u = .tuple #[.slice none 0 0, .int .i64 2]) := by
 refine fz Tryz.func14 Z kz Z Z (fun hH => (zr (yY Z Z Z hH (fun b1 w2 hH3 => (oA hH3 Z (oA hH3 Z (zs (oY hH3 (zW (cs := [(.int .i64 room), v]) T.x3 Z Z (fun _ hw => Heap.yH hw (n := 0) Z (k := 0) Z)) (oM hH3 Z (zM Z Z Z hH3 (zEz (rule := rule) (h0.now hH3 (n := 1) Z) om hc hr) (fun w4 hH5 => (oM hH5 Z (oY hH5 (zH Z Z) (oY hH5 (zH Z Z) (oA hH5 Z (oA hH5 Z (zt (seq (seq ?_)))))))))))))))))))
 refine region (oM hH5 Z (oY hH5 (yF Z Z) (zt (zO Z Z (zr (oM hH5 Z (oA hH5 Z (oA hH5 Z (zt (ret (z6 (fin (hH5.sub (sC sR)) (fun w' hf => (xI Z (rt Z) (rt Z))) (fun w' hf => Z)))))))))))))
end Go.Fip
namespace Go.Fip
open Go.Proofs Go.RowKit
def Sf.fewest (room : Int) (l : List Int) : Int × Int := if Sf.ck room l = 0 then (((Sf.runTo room 3 l l.length).mis.length : Int), 0) else (0, Sf.ck room l)
theorem Sf.fewest_t {room : Int} {l : List Int} (h : Sf.ck room l = 0) : Sf.fewest room l = (((Sf.runTo room 3 l l.length).mis.length : Int), 0) := if_pos h
theorem Sf.fewest_f {room : Int} {l : List Int} (h : ¬ Sf.ck room l = 0) : Sf.fewest room l = (0, Sf.ck room l) := if_neg h
theorem zFq {v : Value} {l : List Int} {room : Int} {w : World} (h0 : Rd encI 1 v l w) (hn : l.length ≤ 1000000) (hc : Sf.ck room l = 0)  :
  Fn Tryz.prog 15 [(.agg #[(.int .i64 room), v])].toArray w (fun u _ => u = .tuple #[.int .i64 (Sf.fewest room l).1, .int .i64 (Sf.fewest room l).2]) := by
 refine fz Tryz.func15 Z kz Z Z (fun hH => ?_)
 obtain ⟨hl1, hl2, hl3⟩ := Sf.run_len (room := room) (rule := 3) (l := l) (Sf.ck_iff.1 hc).r1 l.length
 refine zr (yY Z Z Z hH (fun b1 w2 hH3 => (oA hH3 Z (oA hH3 Z (zs (oY hH3 (zW (cs := [(.int .i64 room), v]) T.x3 Z Z (fun _ hw => Heap.yH hw (n := 0) Z (k := 0) Z)) (yV Z Z Z hH3 (J9 (rule := 3) (h0.now hH3 (n := 1) Z) om hc (by decide)) (fun u6 w4 lo7 hi8 hH5 hv9 => ?_))))))))
 obtain ⟨pR10, hu, -⟩ := hv9
 subst hu
 have hH12 := Heap.xZ (Heap.weaken hH5 (n := 0) Z (φ := Own 3 1 encI pR10 (Sf.runTo room 3 l l.length).mis) (fun w' h => by obtain ⟨p', e, h1⟩ := h; cases e; exact h1)) (n := 0) (by rfl)
 refine oM hH12 Z (oY hH12 (zH Z Z) (oY hH12 (zH Z Z) (oA hH12 Z (oA hH12 Z (zs (oM hH12 Z (oY hH12 (z8 T.yS Z (Heap.yI T.zA hH12 (n := 0) Z).is) (oM hH12 Z (oA hH12 Z (oA hH12 Z (zt (ret (fin (hH12.sub (sC (sC sR))) (fun w' hf => (xI Z (rt Z) (rt Z))) (fun w' hf => ?_))))))))))))))
 rw [Sf.fewest_t hc]; rfl
theorem zFh {v : Value} {l : List Int} {room : Int} {w : World} (h0 : Rd encI 1 v l w) (hn : l.length ≤ 1000000) (hc : ¬ Sf.ck room l = 0)  :
  Fn Tryz.prog 15 [(.agg #[(.int .i64 room), v])].toArray w (fun u _ => u = .tuple #[.int .i64 (Sf.fewest room l).1, .int .i64 (Sf.fewest room l).2]) := by
 refine fz Tryz.func15 Z kz Z Z (fun hH => (zr (yY Z Z Z hH (fun b1 w2 hH3 => (oA hH3 Z (oA hH3 Z (zs (oY hH3 (zW (cs := [(.int .i64 room), v]) T.x3 Z Z (fun _ hw => Heap.yH hw (n := 0) Z (k := 0) Z)) (zM Z Z Z hH3 (zFi (rule := 3) (h0.now hH3 (n := 1) Z) om hc) (fun w4 hH5 => (oM hH5 Z (oY hH5 (zH Z Z) (oY hH5 (zH Z Z) (oA hH5 Z (oA hH5 Z (zs (oM hH5 Z ?_)))))))))))))))))
 refine oY hH5 (z8 (n := 0) T.yS Z ⟨none, 0, Z, Nat.le_refl _, .inl ⟨Z, Z⟩⟩) (oM hH5 Z (oA hH5 Z (oA hH5 Z (zt (ret (fin (hH5.sub (sC sR)) (fun w' hf => (xI Z (rt Z) (rt Z))) (fun w' hf => ?_)))))))
 rw [Sf.fewest_f hc]; rfl
theorem c15 {v : Value} {l : List Int} {room : Int} {w : World} (h0 : Rd encI 1 v l w) (hn : l.length ≤ 1000000) : Fn Tryz.prog 15 [(.agg #[(.int .i64 room), v])].toArray w (fun u _ => u = .tuple #[.int .i64 (Sf.fewest room l).1, .int .i64 (Sf.fewest room l).2]) := by
 by_cases hc : Sf.ck room l = 0
 ·exact zFq h0 hn hc
 ·exact zFh h0 hn hc
end Go.Fip
namespace Go.Fip
namespace Sf
def cpC (l p : List Int) : Nat → List Int
 | 0 => List.replicate 9 0
 | k + 1 => ((cpC l p k).set (nth p (k : Int)).toNat 0).set (nth l (k : Int)).toNat 1
def full (room : Int) (C : List Int) (x : Int) : Prop := ¬ 0 < nth C x ∧ sumTo C 9 = room
instance (room : Int) (C : List Int) (x : Int) : Decidable (full room C x) := by unfold full; infer_instance
def cpErr (room : Int) (C : List Int) (x y : Int) : Int := if ¬ (full room C x ↔ ¬ y = 0) then 16 else if full room C x ∧ ¬ 0 < nth C y then 18 else 0
def cpF (l p : List Int) : Nat → Int
 | 0 => 0
 | k + 1 => if cpC l p k = cpC l p (k + 1) then cpF l p k else cpF l p k + 1
def cpBad (room : Int) (l p : List Int) : Nat → Int
 | 0 => 0
 | k + 1 => if cpBad room l p k = 0 then cpErr room (cpC l p k) (nth l (k : Int)) (nth p (k : Int)) else cpBad room l p k
theorem cpBad_succ {room : Int} {l p : List Int} {k : Nat} (h : cpBad room l p k = 0) : cpBad room l p (k + 1) = cpErr room (cpC l p k) (nth l (k : Int)) (nth p (k : Int)) := if_pos h
theorem KV {room : Int} {l p : List Int} {k n : Nat} (hk : k ≤ n) (h : ¬ cpBad room l p k = 0) : cpBad room l p n = cpBad room l p k := by
 obtain ⟨d, rfl⟩ : ∃ d, n = k + d := ⟨n - k, by omega⟩
 clear hk
 induction d with
 | zero => rfl
 | succ d ih => show (if cpBad room l p (k + d) = 0 then _ else _) = _; rw [ih, if_neg h]; exact ih
theorem cpBad_stop {room : Int} {l p : List Int} {k n : Nat} (hk : k < n) (h : cpBad room l p k = 0) (he : ¬ cpErr room (cpC l p k) (nth l (k : Int)) (nth p (k : Int)) = 0) : cpBad room l p n = cpErr room (cpC l p k) (nth l (k : Int)) (nth p (k : Int)) := by
 rw [← cpBad_succ h] at he ⊢
 exact KV hk he
theorem cpErr_16 {room x y : Int} {C : List Int} (h : ¬ (full room C x ↔ ¬ y = 0)) : cpErr room C x y = 16 := if_pos h
theorem cpErr_18 {room x y : Int} {C : List Int} (h : full room C x ↔ ¬ y = 0) (h2 : full room C x ∧ ¬ 0 < nth C y) : cpErr room C x y = 18 := by unfold cpErr; rw [if_neg (fun hh => hh h), if_pos h2]
theorem cpErr_0 {room x y : Int} {C : List Int} (h : full room C x ↔ ¬ y = 0) (h2 : ¬ (full room C x ∧ ¬ 0 < nth C y)) : cpErr room C x y = 0 := by unfold cpErr; rw [if_neg (fun hh => hh h), if_neg h2]
theorem cpC_len {l p : List Int} : ∀ k, (cpC l p k).length = 9
 | 0 => rfl
 | k + 1 => by show (((cpC l p k).set _ _).set _ _).length = 9; rw [List.length_set, List.length_set]; exact cpC_len k
theorem G2 {C : List Int} {j : Nat} {x : Int} (hx : 0 ≤ x ∧ x ≤ 1) (h : ∀ y ∈ C, 0 ≤ y ∧ y ≤ 1) : ∀ y ∈ C.set j x, 0 ≤ y ∧ y ≤ 1 := fun y hy => by
 rcases List.mem_or_eq_of_mem_set hy with h1 | h1
 ·exact h y h1
 ·rw [h1]; exact hx
theorem WY {l p : List Int} : ∀ k, ∀ y ∈ cpC l p k, (0 : Int) ≤ y ∧ y ≤ 1
 | 0 => fun y hy => by rw [List.eq_of_mem_replicate hy]; omega
 | k + 1 => G2 (by omega) (G2 (by omega) (WY k))
theorem zCc {l p : List Int} (k : Nat) : ∀ i : Nat, i < 9 → 0 ≤ nth (cpC l p k) (i : Int) ∧ nth (cpC l p k) (i : Int) ≤ 1 := fun i hi => by
 have := cpC_len (l := l) (p := p) k
 rw [yG (by omega)]
 exact WY k _ (List.getElem_mem _)
theorem cpC_atI {l p : List Int} (k : Nat) : ∀ i : Int, i < 9 → 0 ≤ nth (cpC l p k) i ∧ nth (cpC l p k) i ≤ 1 := fun i hi => by
 have h := zCc (l := l) (p := p) k i.toNat (by omega)
 have e : nth (cpC l p k) ((i.toNat : Nat) : Int) = nth (cpC l p k) i := by unfold nth; rw [Int.toNat_natCast]
 rwa [e] at h
theorem cpF_in {l p : List Int} : ∀ k, 0 ≤ cpF l p k ∧ cpF l p k ≤ k
 | 0 => by show (0 : Int) ≤ 0 ∧ (0 : Int) ≤ ((0 : Nat) : Int); omega
 | k + 1 => by
  have := cpF_in (l := l) (p := p) k
  by_cases h : cpC l p k = cpC l p (k + 1)
  ·rw [show cpF l p (k + 1) = cpF l p k from if_pos h]; omega
  ·rw [show cpF l p (k + 1) = cpF l p k + 1 from if_neg h]; omega
theorem cpF_t {l p : List Int} {k : Nat} (h : cpC l p k = cpC l p (k + 1)) : cpF l p (k + 1) = cpF l p k := if_pos h
theorem cpF_f {l p : List Int} {k : Nat} (h : ¬ cpC l p k = cpC l p (k + 1)) : cpF l p (k + 1) = cpF l p k + 1 := if_neg h
def cp (room : Int) (l p : List Int) : Int × Int :=
 if ¬ ck room l = 0 then (0, ck room l) else if ¬ p.length = l.length then (0, 15) else if ¬ (∀ x ∈ p, 0 ≤ x ∧ x ≤ 8) then (0, 3) else if ¬ cpBad room l p l.length = 0 then (0, cpBad room l p l.length) else (cpF l p l.length, 0)
theorem cp_1 {room : Int} {l p : List Int} (h : ¬ ck room l = 0) : cp room l p = (0, ck room l) := if_pos h
theorem cp_2 {room : Int} {l p : List Int} (h : ck room l = 0) (h2 : ¬ p.length = l.length) : cp room l p = (0, 15) := by unfold cp; rw [if_neg (fun hh => hh h), if_pos h2]
theorem cp_3 {room : Int} {l p : List Int} (h : ck room l = 0) (h2 : p.length = l.length) (h3 : ¬ ∀ x ∈ p, 0 ≤ x ∧ x ≤ 8) : cp room l p = (0, 3) := by unfold cp; rw [if_neg (fun hh => hh h), if_neg (fun hh => hh h2), if_pos h3]
theorem cp_4 {room : Int} {l p : List Int} (h : ck room l = 0) (h2 : p.length = l.length) (h3 : ∀ x ∈ p, 0 ≤ x ∧ x ≤ 8) {e : Int} (he : cpBad room l p l.length = e) (h4 : ¬ e = 0) : cp room l p = (0, e) := by unfold cp; rw [if_neg (fun hh => hh h), if_neg (fun hh => hh h2), if_neg (fun hh => hh h3), he, if_pos h4]
theorem cp_5 {room : Int} {l p : List Int} (h : ck room l = 0) (h2 : p.length = l.length) (h3 : ∀ x ∈ p, 0 ≤ x ∧ x ≤ 8) (h4 : cpBad room l p l.length = 0) : cp room l p = (cpF l p l.length, 0) := by unfold cp; rw [if_neg (fun hh => hh h), if_neg (fun hh => hh h2), if_neg (fun hh => hh h3), if_neg (fun hh => hh h4)]
end Sf
end Go.Fip
namespace Go.Fip
open Go.Proofs Go.RowKit
theorem K8 {P : Program} {N : Nat} {ds : List Deferred} {env : Env} {S : World → Prop} {x y : Operand} {T T' : TypeId} {a b c : Bool} (hu : P.underlying T = some .bool) (hx : ev env x = some (.bool a)) (hy : ev env y = some (.bool b)) (e : (a != b) = c) : Yv P N ds env (.binOp .neq T x y T') (.bool c) S := fun act hact w _ _ _ _ _ _ => by
 subst e
 have h : (Op.equalIn Op.maxDepth T (.bool a) (.bool b)).run P w = .ok (a == b) w := by
  have key : ∀ d, (Op.equalIn (d + 1) T (.bool a) (.bool b)).run P w = .ok (a == b) w := fun d => by simp [Op.equalIn, run_underlying hu, Result.andThen]
  exact key 9999
 simp [execOp, hact.ev hx, hact.ev hy, eqGuard, binOp, Op.equal, h, Result.andThen, bne]
theorem c53 {v : Value} {l : List Int} {room : Int} {w : World} (h0 : Rd encI 1 v l w) (hn : l.length ≤ 1000000) {vp : Value} {p : List Int} (hp : Rd encI 1 vp p w) (hpn : p.length ≤ 1000000)  :
  Fn Tryz.prog 53 [(.agg #[(.int .i64 room), v]), vp].toArray w (fun u _ => u = .tuple #[.int .i64 (Sf.cp room l p).1, .int .i64 (Sf.cp room l p).2]) := by
 refine fz Tryz.func53 Z kz Z Z (fun hH => (zr (yY Z Z Z hH (fun b1 w2 hH3 => (oA hH3 Z (oA hH3 Z (zt (seq ?_))))))))
 by_cases hc4 : Sf.ck room l = 0
 ·have hc0 : Sf.ck room l = 0 := ‹_›
  have hday := Sf.ck_iff.1 hc0
  have hd1 := hday.r1
  have hd2 := hday.r2
  have hd3 := hday.n
  refine region (oY hH3 (zW (cs := [(.int .i64 room), v]) T.x3 Z Z (fun _ hw => Heap.yH hw (n := 0) Z (k := 0) Z)) (yV Z Z Z hH3 (KD (h0.now hH3 (n := 1) Z) om hc0) (fun u7 w5 lo8 hi9 hH6 hv10 => ?_)))
  obtain ⟨bbD12, hu, hrowD12⟩ := hv10
  subst hu
  obtain ⟨mbD12, mmD12, hfullD12, hH11⟩ := Heap.VK hH6 (n := 0) rfl (fun w' h => by obtain ⟨rb', e, h⟩ := h; cases e; exact h)
  refine oM hH11 Z (oY hH11 (zH Z Z) (oY hH11 (zH Z Z) (oA hH11 Z (oA hH11 Z (zt (seq (block (zr (oM hH11 Z (oY hH11 (yF Z Z) (oA hH11 Z (zt (zL Z Z (zr (oM hH11 Z (oY hH11 (z8 T.yS Z (hp.now hH11 (n := 3) Z).is) (oY hH11 (zI T.vJ Z) ?_)))))))))))))))))
  refine oY hH11 (zE T.xB Z (cw (n := 2) Z Z)) (oY hH11 (z8 T.yS Z (h0.now hH11 (n := 3) Z).is) (oY hH11 (yF Z Z) (oA hH11 Z (zt ?_))))
  by_cases hc13 : (p.length : Int) = (l.length : Int)
  ·have hlp : p.length = l.length := by omega
   refine zL Z (zG hc13) (zr (oM hH11 Z (zM Z Z Z hH11 (c91 (hp.now hH11 (n := 3) Z) om) (fun w14 hH15 => (oY hH15 (y6 Z) (oA hH15 Z (zt ?_)))))))
   by_cases hc16 : ∀ x ∈ p, 0 ≤ x ∧ x ≤ 8
   ·have hpw : ∀ x ∈ p, 0 ≤ x ∧ x ≤ 8 := by have hq := (zG hc16); simpa using hq
    refine zL Z (zG hc16) (skip (yC (zu (oA hH15 Z (zt (seq (zr (oY hH15 (zI T.vJ Z) (oY hH15 (zE T.xB Z (cw (n := 2) Z Z)) (oY hH15 (z8 T.yS Z (h0.now hH15 (n := 3) Z).is) (oM hH15 Z (zt (block (loop (S := Nat) (fun k => [(36, (.int .i64 (k : Int))), (8, (.int .i64 (Sf.cpF l p k))), (1, vp), (2, (.pointer (some ⟨b1, 0, none⟩))), (6, (.pointer (some ⟨bbD12, 0, none⟩))), (34, v), (35, (.int .i64 (l.length : Int)))]) (fun k w1 => Heap [mp Sf.kvS Sf.vvI mbD12 mmD12, bx bbD12 148 (seg [(.int .i64 room), v] (Sf.cpC l p k) [(.map (some mbD12))]), bx b1 51 [(.int .i64 room), v], base w] w1 ∧ k ≤ l.length ∧ Sf.cpBad room l p k = 0) (fun k => l.length - k) (0) (uC Z (uC Z (uC Z (uC Z (uC Z (uC Z (uC Z (Sub.nil _)))))))) ?_ ?_))))))))))))))
    ·exact ⟨(Heap.y9 (n := 1) hH15 Z (Z)), om, Z⟩
    rintro k w17 ⟨hH18, hk, hbad⟩
    have hcl := Sf.cpC_len (l := l) (p := p) k
    have hcf := Sf.cpF_in (l := l) (p := p) k
    refine zr (oY hH18 (yL Z Z) (zt (seq ?_)))
    by_cases hc19 : (k : Int) < (l.length : Int)
    ·refine zO Z (dT hc19) (skip (zN (seq (block (seq ?_)))))
     have hx8 := hday.at (i := k) (by omega)
     have hy8 : 0 ≤ (nth p (k : Int)) ∧ (nth p (k : Int)) ≤ 8 := by rw [yG (by omega)]; exact hpw _ (List.getElem_mem (by omega))
     refine region (oM hH18 Z (oY hH18 (zP T.yS Z Z (h0.now hH18 (n := 3) Z).is om) (oY hH18 (zE T.yU Z (fun _ hw => Rd.at (h0.now hw (n := 3) Z) (i := (k : Int)) om (j := 0) Z)) (oA hH18 Z (oA hH18 Z (zt (seq (zY (fun w' => Heap [mp Sf.kvS Sf.vvI mbD12 mmD12, bx bbD12 148 (seg [(.int .i64 room), v] (Sf.cpC l p k) [(.map (some mbD12))]), bx b1 51 [(.int .i64 room), v], base w] w') T.mixed (fun w20 hr21 => ?_)))))))))
     have hH22 := hH18.redrawn hr21
     refine zK [0, 1] kz hH22 _ _ _ kz (qM Z Z Z (qM Z Z Z (zQ (z1 2 kz Z (zM Z Z Z hH22 (zCi (Heap.xV hH22 (n := 1) Z) (by first | exact Sf.cpC_len k | (simp only [List.length_set]; exact Sf.cpC_len k) | omega) om) (fun w23 hH24 => (zC (⟨hH24, (zK [3, 4] kz hH24 _ _ _ kz (zJ Z Z (y6 Z) (qM Z Z Z (zQ ?_))))⟩))))))))
     by_cases hc25 : 0 < nth (Sf.cpC l p k) (nth l (k : Int))
     ·have hyes : 0 < nth (Sf.cpC l p k) (nth l (k : Int)) := by simpa using (zG hc25)
      have hfu : Sf.full room (Sf.cpC l p k) (nth l (k : Int)) ↔ False := ⟨fun h => h.1 hyes, False.elim⟩
      refine zK [5, 6, 7, 8, 9, 10, 11] kz hH24 _ _ _ kz (yO Z Z Z (zG hc25) Z (yO Z Z Z (zG hc25) Z (yO Z Z Z (zG hc25) Z (yO Z Z Z (zG hc25) Z (yO Z Z Z (zG hc25) Z (zJ Z Z (zT Z (zG hc25) Z) (zJ Z Z (yK Z) (zQ (zX kz (zN (seq (block (zr (oM hH24 Z (oM hH24 Z (oM hH24 Z (oY hH24 (zP T.yS Z Z (hp.now hH24 (n := 3) Z).is om) (oY hH24 (zE T.yU Z (fun _ hw => Rd.at (hp.now hw (n := 3) Z) (i := (k : Int)) om (j := 0) Z)) (oY hH24 (yF Z Z) (oY hH24 (K8 Tryz.underlying4 Z Z (show _ = decide (¬ (Sf.full room (Sf.cpC l p k) (nth l (k : Int)) ↔ ¬ (nth p (k : Int)) = 0)) from by by_cases h1 : (nth p (k : Int)) = 0 <;> by_cases h2 : Sf.sumTo (Sf.cpC l p k) 9 = room <;> simp [hfu, h1, h2])) ?_))))))))))))))))))))
      refine oA hH24 Z (zt ?_)
      by_cases hc26 : ¬ (Sf.full room (Sf.cpC l p k) (nth l (k : Int)) ↔ ¬ (nth p (k : Int)) = 0)
      ·have hbn : Sf.cpBad room l p l.length = 16 := by rw [Sf.cpBad_stop (k := k) (by omega) hbad (by rw [Sf.cpErr_16 (of_decide_eq_true (decide_eq_true hc26))]; decide)]; exact Sf.cpErr_16 (of_decide_eq_true (decide_eq_true hc26))
       refine zO Z (dT hc26) (zr (oA hH24 Z (oA hH24 Z (zt (ret (yE (z6 (yE (z6 (xY (yE (z6 (fin (hH24.sub (sC (sC (sC sR)))) (fun w' hf => (xI Z (rt Z) (rt Z))) (fun w' hf => ?_))))))))))))))
       first | (rw [Sf.cp_1 hcn] <;> rfl) | (rw [Sf.cp_2 hc0 hlp] <;> rfl) | (rw [Sf.cp_3 hc0 hlp hpw] <;> rfl) | (rw [Sf.cp_4 hc0 hlp hpw hbn (by decide)] <;> rfl) | (have hke : k = l.length := (by omega); subst hke; rw [Sf.cp_5 hc0 hlp hpw hbad] <;> rfl)
      have hok : Sf.full room (Sf.cpC l p k) (nth l (k : Int)) ↔ ¬ (nth p (k : Int)) = 0 := Decidable.not_not.1 (of_decide_eq_false (decide_eq_false hc26))
      refine zL Z (dF hc26) (zr (oM hH24 Z (oM hH24 Z (zD Z Z Z Z (zD Z Z Z Z (zD Z Z Z Z (zD Z Z Z Z (zD Z Z Z Z (zD Z Z Z Z (zD Z Z Z Z (oY hH24 (zT Z Z Z) (oA hH24 Z (zt (zL Z Z (skip (yC (zu ?_)))))))))))))))))
      refine oM hH24 Z (oY hH24 (yQ Z) (oY hH24 (zI T.qB Z) (oY hH24 (uG T.vS Z ((by first | exact Sf.cpC_len k | (simp only [List.length_set]; exact Sf.cpC_len k) | omega)) (by rfl) (fun _ hw => (Heap.xV hw (n := 1) Z))) (yD (z := (.agg #[(.int .i64 0), (.int .i64 0), (.int .i64 0), (.int .i64 0), (.int .i64 0), (.int .i64 0), (.int .i64 0), (.int .i64 0), (.int .i64 0)])) (fun _ => by kernel_rfl) Z Z hH24 (fun b28 w29 hH30 => (YY (n := 0) Z Z hH30 Z T.W8 om (by first | rfl | (rw [vG]; omega)) (fun w31 hH32 => (zs (oM hH32 Z (oM hH32 Z (oM hH32 Z (oY hH32 (zP T.yS Z Z (hp.now hH32 (n := 4) Z).is om) (oY hH32 (zE T.yU Z (fun _ hw => Rd.at (hp.now hw (n := 4) Z) (i := (k : Int)) om (j := 0) Z)) (vB (g := bbD12) (n := 2) Z Z Z hH32 Z ⟨Nat.le_refl _, Nat.lt_succ_self _⟩ (zBt (Heap.xV hH32 (n := 2) Z) ((by first | exact Sf.cpC_len k | (simp only [List.length_set]; exact Sf.cpC_len k) | omega)) om) (fun u35 w33 hH34 hv36 => ?_)))))))))))))))
      obtain ⟨rfl, -⟩ := hv36
      have hH37 := Heap.weaken hH34 (n := 2) Z (φ := Bx bbD12 148 (seg [(.int .i64 room), v] ((Sf.cpC l p k).set (nth p (k : Int)).toNat 0) [(.map (some mbD12))])) (fun w' h => h.2)
      refine zs (oM hH37 Z (oM hH37 Z (vB (g := bbD12) (n := 2) Z Z Z hH37 Z ⟨Nat.le_refl _, Nat.lt_succ_self _⟩ (J8 (Heap.xV hH37 (n := 2) Z) ((by first | exact Sf.cpC_len k | (simp only [List.length_set]; exact Sf.cpC_len k) | omega)) om) (fun u40 w38 hH39 hv41 => ?_))))
      obtain ⟨rfl, -⟩ := hv41
      have hH42 := Heap.weaken hH39 (n := 2) Z (φ := Bx bbD12 148 (seg [(.int .i64 room), v] (((Sf.cpC l p k).set (nth p (k : Int)).toNat 0).set (nth l (k : Int)).toNat 1) [(.map (some mbD12))])) (fun w' h => h.2)
      refine zt (seq (zY (fun w' => Heap [bx b28 145 (ints (Sf.cpC l p k)), mp Sf.kvS Sf.vvI mbD12 mmD12, bx bbD12 148 (seg [(.int .i64 room), v] (((Sf.cpC l p k).set (nth p (k : Int)).toNat 0).set (nth l (k : Int)).toNat 1) [(.map (some mbD12))]), bx b1 51 [(.int .i64 room), v], base w] w') T.mixed (fun w43 hr44 => ?_)))
      have hH45 := hH42.redrawn hr44
      refine zK [0, 1, 2, 3, 4, 5] kz hH45 _ _ _ kz (zJ Z Z (uD T.vS om Z (fun _ hw => Heap.xV hw (n := 0) Z)) (qM Z Z Z (zJ Z Z (yQ Z) (zJ Z Z (zI T.qB Z) (zJ Z Z (uG T.vS Z ((by first | exact Sf.cpC_len k | (simp only [List.length_set]; exact Sf.cpC_len k) | omega)) (by rfl) (fun _ hw => (Heap.xV hw (n := 2) Z))) (zJ Z Z (WV (a := (Sf.cpC l p k)) (b := (((Sf.cpC l p k).set (nth p (k : Int)).toNat 0).set (nth l (k : Int)).toNat 1)) T.KG Z Z (by first | exact Sf.cpC_len k | (simp only [List.length_set]; exact Sf.cpC_len k)) (by first | exact Sf.cpC_len k | (simp only [List.length_set]; exact Sf.cpC_len k))) (zQ (zX kz (zN ?_)))))))))
      by_cases hc46 : (Sf.cpC l p k) = (((Sf.cpC l p k).set (nth p (k : Int)).toNat 0).set (nth l (k : Int)).toNat 1)
      ·have hsm0 : (Sf.cpC l p k) = (((Sf.cpC l p k).set (nth p (k : Int)).toNat 0).set (nth l (k : Int)).toNat 1) := by have hq := (zG hc46); simpa using hq
       have hsm : (Sf.cpC l p k) = Sf.cpC l p (k + 1) := hsm0
       refine zL Z (zG hc46) (skip (yC (zN (region (oY hH45 (zV Z Z om) (oM hH45 Z (zC (y0 (k + 1) (uC Z (Sub.cons (by first | (rw [Sf.cpF_t hsm]; done) | (rw [Sf.cpF_t hsm]; rfl) | (rw [Sf.cpF_f hdf]; done) | (rw [Sf.cpF_f hdf]; rfl) | exact congrArg (fun z : Int => some (Value.int .i64 z)) (Sf.cpF_t hsm).symm) (uC Z (uC Z (uC Z (uC Z (uC Z (Sub.nil _)))))))) (⟨(Heap.y9 (n := 1) (hH45.sub (sC sR)) Z (Z)), om, (by rw [Sf.cpBad_succ hbad]; exact Sf.cpErr_0 hok (by first | exact h18n | exact fun h => h.1.1 hyes | exact fun h => hns h.1.2))⟩) om3))))))))
      have hdf0 : ¬ (Sf.cpC l p k) = (((Sf.cpC l p k).set (nth p (k : Int)).toNat 0).set (nth l (k : Int)).toNat 1) := by have hq := (zF hc46); simpa using hq
      have hdf : ¬ (Sf.cpC l p k) = Sf.cpC l p (k + 1) := hdf0
      refine zO Z (zF hc46) (region (oM hH45 Z (oY hH45 (zV Z Z om) (oA hH45 Z (zC (yC (zN (region (oY hH45 (zV Z Z om) (oM hH45 Z (zC (y0 (k + 1) (uC Z (Sub.cons (by first | (rw [Sf.cpF_t hsm]; done) | (rw [Sf.cpF_t hsm]; rfl) | (rw [Sf.cpF_f hdf]; done) | (rw [Sf.cpF_f hdf]; rfl) | exact congrArg (fun z : Int => some (Value.int .i64 z)) (Sf.cpF_t hsm).symm) (uC Z (uC Z (uC Z (uC Z (uC Z (Sub.nil _)))))))) (⟨(Heap.y9 (n := 1) (hH45.sub (sC sR)) Z (Z)), om, (by rw [Sf.cpBad_succ hbad]; exact Sf.cpErr_0 hok (by first | exact h18n | exact fun h => h.1.1 hyes | exact fun h => hns h.1.2))⟩) om3))))))))))))
     have hno : ¬ 0 < nth (Sf.cpC l p k) (nth l (k : Int)) := by simpa using (zF hc25)
     have hfu : Sf.full room (Sf.cpC l p k) (nth l (k : Int)) ↔ Sf.sumTo (Sf.cpC l p k) 9 = room := ⟨fun h => h.2, fun h => ⟨hno, h⟩⟩
     refine zK [5, 7, 8] kz hH24 _ _ _ kz (zZ Z Z Z (zF hc25) Z (yX Z) (zZ Z Z Z (zF hc25) Z (zI T.YS Z) (zZ Z Z Z (zF hc25) Z (zE T.yU Z (cw (n := 2) Z Z)) (zQ (z1 6 kz Z (zB Z Z (zF hc25) (zM Z Z Z hH24 (zDc (Heap.xV hH24 (n := 1) Z) (by first | exact Sf.cpC_len k | (simp only [List.length_set]; exact Sf.cpC_len k) | omega) (Sf.cpC_atI k)) (fun w49 hH50 => (zC (⟨hH50, (zK [9, 10, 11] kz hH50 _ _ _ kz (zZ Z Z Z (zF hc25) Z (y5 Z Z) (zJ Z Z (zU Z (zF hc25) Z) (zJ Z Z (yK Z) (zQ (zX kz (zN (seq (block (zr ?_))))))))))⟩))))))))))
     refine oM hH50 Z (oM hH50 Z (oM hH50 Z (oY hH50 (zP T.yS Z Z (hp.now hH50 (n := 3) Z).is om) (oY hH50 (zE T.yU Z (fun _ hw => Rd.at (hp.now hw (n := 3) Z) (i := (k : Int)) om (j := 0) Z)) (oY hH50 (yF Z Z) (oY hH50 (K8 Tryz.underlying4 Z Z (show _ = decide (¬ (Sf.full room (Sf.cpC l p k) (nth l (k : Int)) ↔ ¬ (nth p (k : Int)) = 0)) from by by_cases h1 : (nth p (k : Int)) = 0 <;> by_cases h2 : Sf.sumTo (Sf.cpC l p k) 9 = room <;> simp [hfu, h1, h2])) ?_))))))
     refine oA hH50 Z (zt ?_)
     by_cases hc51 : ¬ (Sf.full room (Sf.cpC l p k) (nth l (k : Int)) ↔ ¬ (nth p (k : Int)) = 0)
     ·have hbn : Sf.cpBad room l p l.length = 16 := by rw [Sf.cpBad_stop (k := k) (by omega) hbad (by rw [Sf.cpErr_16 (of_decide_eq_true (decide_eq_true hc51))]; decide)]; exact Sf.cpErr_16 (of_decide_eq_true (decide_eq_true hc51))
      refine zO Z (dT hc51) (zr (oA hH50 Z (oA hH50 Z (zt (ret (yE (z6 (yE (z6 (xY (yE (z6 (fin (hH50.sub (sC (sC (sC sR)))) (fun w' hf => (xI Z (rt Z) (rt Z))) (fun w' hf => ?_))))))))))))))
      first | (rw [Sf.cp_1 hcn] <;> rfl) | (rw [Sf.cp_2 hc0 hlp] <;> rfl) | (rw [Sf.cp_3 hc0 hlp hpw] <;> rfl) | (rw [Sf.cp_4 hc0 hlp hpw hbn (by decide)] <;> rfl) | (have hke : k = l.length := (by omega); subst hke; rw [Sf.cp_5 hc0 hlp hpw hbad] <;> rfl)
     have hok : Sf.full room (Sf.cpC l p k) (nth l (k : Int)) ↔ ¬ (nth p (k : Int)) = 0 := Decidable.not_not.1 (of_decide_eq_false (decide_eq_false hc51))
     refine zL Z (dF hc51) (zr (oM hH50 Z (oM hH50 Z ?_)))
     by_cases hc53 : (Sf.sumTo (Sf.cpC l p k) 9) = room
     ·have hs : Sf.sumTo (Sf.cpC l p k) 9 = room := by have hq := (decide_eq_true hc53); simpa using hq
      refine zB Z Z (dT hc53) (oM hH50 Z (zB Z Z (dT hc53) (oM hH50 Z (zB Z Z (dT hc53) (oM hH50 Z (zB Z Z (dT hc53) (oY hH50 (zP T.yS Z Z (hp.now hH50 (n := 3) Z).is om) (zB Z Z (dT hc53) (oY hH50 (zE T.yU Z (fun _ hw => Rd.at (hp.now hw (n := 3) Z) (i := (k : Int)) om (j := 0) Z)) (zB Z Z (dT hc53) (zM Z Z Z hH50 (zCi (Heap.xV hH50 (n := 1) Z) (by first | exact Sf.cpC_len k | (simp only [List.length_set]; exact Sf.cpC_len k) | omega) om) (fun w54 hH55 => (zB Z Z (dT hc53) (oY hH55 (y6 Z) (oY hH55 (zU Z (dT hc53) Z) (oA hH55 Z (zt ?_)))))))))))))))))
      by_cases hc56 : 0 < nth (Sf.cpC l p k) (nth p (k : Int))
      ·have hy1 : 0 < nth (Sf.cpC l p k) (nth p (k : Int)) := by have hq := (zG hc56); simpa using hq
       have h18n : ¬ (Sf.full room (Sf.cpC l p k) (nth l (k : Int)) ∧ ¬ 0 < nth (Sf.cpC l p k) (nth p (k : Int))) := fun h => h.2 hy1
       refine zL Z (zG hc56) (skip (yC (zu (oM hH55 Z (oY hH55 (yQ Z) (oY hH55 (zI T.qB Z) (oY hH55 (uG T.vS Z ((by first | exact Sf.cpC_len k | (simp only [List.length_set]; exact Sf.cpC_len k) | omega)) (by rfl) (fun _ hw => (Heap.xV hw (n := 1) Z))) (yD (z := (.agg #[(.int .i64 0), (.int .i64 0), (.int .i64 0), (.int .i64 0), (.int .i64 0), (.int .i64 0), (.int .i64 0), (.int .i64 0), (.int .i64 0)])) (fun _ => by kernel_rfl) Z Z hH55 (fun b57 w58 hH59 => (YY (n := 0) Z Z hH59 Z T.W8 om (by first | rfl | (rw [vG]; omega)) (fun w60 hH61 => (zs (oM hH61 Z (oM hH61 Z (oM hH61 Z (oY hH61 (zP T.yS Z Z (hp.now hH61 (n := 4) Z).is om) (oY hH61 (zE T.yU Z (fun _ hw => Rd.at (hp.now hw (n := 4) Z) (i := (k : Int)) om (j := 0) Z)) (vB (g := bbD12) (n := 2) Z Z Z hH61 Z ⟨Nat.le_refl _, Nat.lt_succ_self _⟩ (zBt (Heap.xV hH61 (n := 2) Z) ((by first | exact Sf.cpC_len k | (simp only [List.length_set]; exact Sf.cpC_len k) | omega)) om) (fun u64 w62 hH63 hv65 => ?_)))))))))))))))))))
       obtain ⟨rfl, -⟩ := hv65
       have hH66 := Heap.weaken hH63 (n := 2) Z (φ := Bx bbD12 148 (seg [(.int .i64 room), v] ((Sf.cpC l p k).set (nth p (k : Int)).toNat 0) [(.map (some mbD12))])) (fun w' h => h.2)
       refine zs (oM hH66 Z (oM hH66 Z (vB (g := bbD12) (n := 2) Z Z Z hH66 Z ⟨Nat.le_refl _, Nat.lt_succ_self _⟩ (J8 (Heap.xV hH66 (n := 2) Z) ((by first | exact Sf.cpC_len k | (simp only [List.length_set]; exact Sf.cpC_len k) | omega)) om) (fun u69 w67 hH68 hv70 => ?_))))
       obtain ⟨rfl, -⟩ := hv70
       have hH71 := Heap.weaken hH68 (n := 2) Z (φ := Bx bbD12 148 (seg [(.int .i64 room), v] (((Sf.cpC l p k).set (nth p (k : Int)).toNat 0).set (nth l (k : Int)).toNat 1) [(.map (some mbD12))])) (fun w' h => h.2)
       refine zt (seq (zY (fun w' => Heap [bx b57 145 (ints (Sf.cpC l p k)), mp Sf.kvS Sf.vvI mbD12 mmD12, bx bbD12 148 (seg [(.int .i64 room), v] (((Sf.cpC l p k).set (nth p (k : Int)).toNat 0).set (nth l (k : Int)).toNat 1) [(.map (some mbD12))]), bx b1 51 [(.int .i64 room), v], base w] w') T.mixed (fun w72 hr73 => ?_)))
       have hH74 := hH71.redrawn hr73
       refine zK [0, 1, 2, 3, 4, 5] kz hH74 _ _ _ kz (zJ Z Z (uD T.vS om Z (fun _ hw => Heap.xV hw (n := 0) Z)) (qM Z Z Z (zJ Z Z (yQ Z) (zJ Z Z (zI T.qB Z) (zJ Z Z (uG T.vS Z ((by first | exact Sf.cpC_len k | (simp only [List.length_set]; exact Sf.cpC_len k) | omega)) (by rfl) (fun _ hw => (Heap.xV hw (n := 2) Z))) (zJ Z Z (WV (a := (Sf.cpC l p k)) (b := (((Sf.cpC l p k).set (nth p (k : Int)).toNat 0).set (nth l (k : Int)).toNat 1)) T.KG Z Z (by first | exact Sf.cpC_len k | (simp only [List.length_set]; exact Sf.cpC_len k)) (by first | exact Sf.cpC_len k | (simp only [List.length_set]; exact Sf.cpC_len k))) (zQ (zX kz (zN ?_)))))))))
       by_cases hc75 : (Sf.cpC l p k) = (((Sf.cpC l p k).set (nth p (k : Int)).toNat 0).set (nth l (k : Int)).toNat 1)
       ·have hsm0 : (Sf.cpC l p k) = (((Sf.cpC l p k).set (nth p (k : Int)).toNat 0).set (nth l (k : Int)).toNat 1) := by have hq := (zG hc75); simpa using hq
        have hsm : (Sf.cpC l p k) = Sf.cpC l p (k + 1) := hsm0
        refine zL Z (zG hc75) (skip (yC (zN (region (oY hH74 (zV Z Z om) (oM hH74 Z (zC (y0 (k + 1) (uC Z (Sub.cons (by first | (rw [Sf.cpF_t hsm]; done) | (rw [Sf.cpF_t hsm]; rfl) | (rw [Sf.cpF_f hdf]; done) | (rw [Sf.cpF_f hdf]; rfl) | exact congrArg (fun z : Int => some (Value.int .i64 z)) (Sf.cpF_t hsm).symm) (uC Z (uC Z (uC Z (uC Z (uC Z (Sub.nil _)))))))) (⟨(Heap.y9 (n := 1) (hH74.sub (sC sR)) Z (Z)), om, (by rw [Sf.cpBad_succ hbad]; exact Sf.cpErr_0 hok (by first | exact h18n | exact fun h => h.1.1 hyes | exact fun h => hns h.1.2))⟩) om3))))))))
       have hdf0 : ¬ (Sf.cpC l p k) = (((Sf.cpC l p k).set (nth p (k : Int)).toNat 0).set (nth l (k : Int)).toNat 1) := by have hq := (zF hc75); simpa using hq
       have hdf : ¬ (Sf.cpC l p k) = Sf.cpC l p (k + 1) := hdf0
       refine zO Z (zF hc75) (region (oM hH74 Z (oY hH74 (zV Z Z om) (oA hH74 Z (zC (yC (zN (region (oY hH74 (zV Z Z om) (oM hH74 Z (zC (y0 (k + 1) (uC Z (Sub.cons (by first | (rw [Sf.cpF_t hsm]; done) | (rw [Sf.cpF_t hsm]; rfl) | (rw [Sf.cpF_f hdf]; done) | (rw [Sf.cpF_f hdf]; rfl) | exact congrArg (fun z : Int => some (Value.int .i64 z)) (Sf.cpF_t hsm).symm) (uC Z (uC Z (uC Z (uC Z (uC Z (Sub.nil _)))))))) (⟨(Heap.y9 (n := 1) (hH74.sub (sC sR)) Z (Z)), om, (by rw [Sf.cpBad_succ hbad]; exact Sf.cpErr_0 hok (by first | exact h18n | exact fun h => h.1.1 hyes | exact fun h => hns h.1.2))⟩) om3))))))))))))
      have hy0 : ¬ 0 < nth (Sf.cpC l p k) (nth p (k : Int)) := by have hq := (zF hc56); simpa using hq
      have hbn : Sf.cpBad room l p l.length = 18 := by rw [Sf.cpBad_stop (k := k) (by omega) hbad (by rw [Sf.cpErr_18 hok ⟨hfu.2 hs, hy0⟩]; decide)]; exact Sf.cpErr_18 hok ⟨hfu.2 hs, hy0⟩
      refine zO Z (zF hc56) (zr (oA hH55 Z (oA hH55 Z (zt (ret (yE (z6 (yE (z6 (xY (yE (z6 (fin (hH55.sub (sC (sC (sC sR)))) (fun w' hf => (xI Z (rt Z) (rt Z))) (fun w' hf => ?_))))))))))))))
      first | (rw [Sf.cp_1 hcn] <;> rfl) | (rw [Sf.cp_2 hc0 hlp] <;> rfl) | (rw [Sf.cp_3 hc0 hlp hpw] <;> rfl) | (rw [Sf.cp_4 hc0 hlp hpw hbn (by decide)] <;> rfl) | (have hke : k = l.length := (by omega); subst hke; rw [Sf.cp_5 hc0 hlp hpw hbad] <;> rfl)
     have hns : ¬ Sf.sumTo (Sf.cpC l p k) 9 = room := by have hq := (decide_eq_false hc53); simpa using hq
     refine zD Z Z (dF hc53) Z (zD Z Z (dF hc53) Z (zD Z Z (dF hc53) Z (zD Z Z (dF hc53) Z (zD Z Z (dF hc53) Z (zD Z Z (dF hc53) Z (zD Z Z (dF hc53) Z (oY hH50 (zT Z (dF hc53) Z) (oA hH50 Z (zt (zL Z Z (skip (yC (zu (oM hH50 Z (oY hH50 (yQ Z) (oY hH50 (zI T.qB Z) (oY hH50 (uG T.vS Z ((by first | exact Sf.cpC_len k | (simp only [List.length_set]; exact Sf.cpC_len k) | omega)) (by rfl) (fun _ hw => (Heap.xV hw (n := 1) Z))) (yD (z := (.agg #[(.int .i64 0), (.int .i64 0), (.int .i64 0), (.int .i64 0), (.int .i64 0), (.int .i64 0), (.int .i64 0), (.int .i64 0), (.int .i64 0)])) (fun _ => by kernel_rfl) Z Z hH50 (fun b79 w80 hH81 => ?_)))))))))))))))))))
     refine YY (n := 0) Z Z hH81 Z T.W8 om (by first | rfl | (rw [vG]; omega)) (fun w82 hH83 => (zs (oM hH83 Z (oM hH83 Z (oM hH83 Z (oY hH83 (zP T.yS Z Z (hp.now hH83 (n := 4) Z).is om) (oY hH83 (zE T.yU Z (fun _ hw => Rd.at (hp.now hw (n := 4) Z) (i := (k : Int)) om (j := 0) Z)) (vB (g := bbD12) (n := 2) Z Z Z hH83 Z ⟨Nat.le_refl _, Nat.lt_succ_self _⟩ (zBt (Heap.xV hH83 (n := 2) Z) ((by first | exact Sf.cpC_len k | (simp only [List.length_set]; exact Sf.cpC_len k) | omega)) om) (fun u86 w84 hH85 hv87 => ?_)))))))))
     obtain ⟨rfl, -⟩ := hv87
     have hH88 := Heap.weaken hH85 (n := 2) Z (φ := Bx bbD12 148 (seg [(.int .i64 room), v] ((Sf.cpC l p k).set (nth p (k : Int)).toNat 0) [(.map (some mbD12))])) (fun w' h => h.2)
     refine zs (oM hH88 Z (oM hH88 Z (vB (g := bbD12) (n := 2) Z Z Z hH88 Z ⟨Nat.le_refl _, Nat.lt_succ_self _⟩ (J8 (Heap.xV hH88 (n := 2) Z) ((by first | exact Sf.cpC_len k | (simp only [List.length_set]; exact Sf.cpC_len k) | omega)) om) (fun u91 w89 hH90 hv92 => ?_))))
     obtain ⟨rfl, -⟩ := hv92
     have hH93 := Heap.weaken hH90 (n := 2) Z (φ := Bx bbD12 148 (seg [(.int .i64 room), v] (((Sf.cpC l p k).set (nth p (k : Int)).toNat 0).set (nth l (k : Int)).toNat 1) [(.map (some mbD12))])) (fun w' h => h.2)
     refine zt (seq (zY (fun w' => Heap [bx b79 145 (ints (Sf.cpC l p k)), mp Sf.kvS Sf.vvI mbD12 mmD12, bx bbD12 148 (seg [(.int .i64 room), v] (((Sf.cpC l p k).set (nth p (k : Int)).toNat 0).set (nth l (k : Int)).toNat 1) [(.map (some mbD12))]), bx b1 51 [(.int .i64 room), v], base w] w') T.mixed (fun w94 hr95 => ?_)))
     have hH96 := hH93.redrawn hr95
     refine zK [0, 1, 2, 3, 4, 5] kz hH96 _ _ _ kz (zJ Z Z (uD T.vS om Z (fun _ hw => Heap.xV hw (n := 0) Z)) (qM Z Z Z (zJ Z Z (yQ Z) (zJ Z Z (zI T.qB Z) (zJ Z Z (uG T.vS Z ((by first | exact Sf.cpC_len k | (simp only [List.length_set]; exact Sf.cpC_len k) | omega)) (by rfl) (fun _ hw => (Heap.xV hw (n := 2) Z))) (zJ Z Z (WV (a := (Sf.cpC l p k)) (b := (((Sf.cpC l p k).set (nth p (k : Int)).toNat 0).set (nth l (k : Int)).toNat 1)) T.KG Z Z (by first | exact Sf.cpC_len k | (simp only [List.length_set]; exact Sf.cpC_len k)) (by first | exact Sf.cpC_len k | (simp only [List.length_set]; exact Sf.cpC_len k))) (zQ (zX kz (zN ?_)))))))))
     by_cases hc97 : (Sf.cpC l p k) = (((Sf.cpC l p k).set (nth p (k : Int)).toNat 0).set (nth l (k : Int)).toNat 1)
     ·have hsm0 : (Sf.cpC l p k) = (((Sf.cpC l p k).set (nth p (k : Int)).toNat 0).set (nth l (k : Int)).toNat 1) := by have hq := (zG hc97); simpa using hq
      have hsm : (Sf.cpC l p k) = Sf.cpC l p (k + 1) := hsm0
      refine zL Z (zG hc97) (skip (yC (zN (region (oY hH96 (zV Z Z om) (oM hH96 Z (zC (y0 (k + 1) (uC Z (Sub.cons (by first | (rw [Sf.cpF_t hsm]; done) | (rw [Sf.cpF_t hsm]; rfl) | (rw [Sf.cpF_f hdf]; done) | (rw [Sf.cpF_f hdf]; rfl) | exact congrArg (fun z : Int => some (Value.int .i64 z)) (Sf.cpF_t hsm).symm) (uC Z (uC Z (uC Z (uC Z (uC Z (Sub.nil _)))))))) (⟨(Heap.y9 (n := 1) (hH96.sub (sC sR)) Z (Z)), om, (by rw [Sf.cpBad_succ hbad]; exact Sf.cpErr_0 hok (by first | exact h18n | exact fun h => h.1.1 hyes | exact fun h => hns h.1.2))⟩) om3))))))))
     have hdf0 : ¬ (Sf.cpC l p k) = (((Sf.cpC l p k).set (nth p (k : Int)).toNat 0).set (nth l (k : Int)).toNat 1) := by have hq := (zF hc97); simpa using hq
     have hdf : ¬ (Sf.cpC l p k) = Sf.cpC l p (k + 1) := hdf0
     refine zO Z (zF hc97) (region (oM hH96 Z (oY hH96 (zV Z Z om) (oA hH96 Z (zC (yC (zN (region (oY hH96 (zV Z Z om) (oM hH96 Z (zC (y0 (k + 1) (uC Z (Sub.cons (by first | (rw [Sf.cpF_t hsm]; done) | (rw [Sf.cpF_t hsm]; rfl) | (rw [Sf.cpF_f hdf]; done) | (rw [Sf.cpF_f hdf]; rfl) | exact congrArg (fun z : Int => some (Value.int .i64 z)) (Sf.cpF_t hsm).symm) (uC Z (uC Z (uC Z (uC Z (uC Z (Sub.nil _)))))))) (⟨(Heap.y9 (n := 1) (hH96.sub (sC sR)) Z (Z)), om, (by rw [Sf.cpBad_succ hbad]; exact Sf.cpErr_0 hok (by first | exact h18n | exact fun h => h.1.1 hyes | exact fun h => hns h.1.2))⟩) om3))))))))))))
    refine zL Z (dF hc19) (exit (yZ (xF (z7 (zu (oM hH18 Z (oA hH18 Z (oA hH18 Z (zt (ret (fin (hH18.sub (sC (sC (sC sR)))) (fun w' hf => (xI Z (rt Z) (rt Z))) (fun w' hf => ?_))))))))))))
    first | (rw [Sf.cp_1 hcn] <;> rfl) | (rw [Sf.cp_2 hc0 hlp] <;> rfl) | (rw [Sf.cp_3 hc0 hlp hpw] <;> rfl) | (rw [Sf.cp_4 hc0 hlp hpw hbn (by decide)] <;> rfl) | (have hke : k = l.length := (by omega); subst hke; rw [Sf.cp_5 hc0 hlp hpw hbad] <;> rfl)
   have hpw : ¬ ∀ x ∈ p, 0 ≤ x ∧ x ≤ 8 := by have hq := (zF hc16); simpa using hq
   refine zO Z (zF hc16) (zr (oA hH15 Z (oA hH15 Z (zt (ret (yE (z6 (fin (hH15.sub (sC (sC (sC sR)))) (fun w' hf => (xI Z (rt Z) (rt Z))) (fun w' hf => ?_)))))))))
   first | (rw [Sf.cp_1 hcn] <;> rfl) | (rw [Sf.cp_2 hc0 hlp] <;> rfl) | (rw [Sf.cp_3 hc0 hlp hpw] <;> rfl) | (rw [Sf.cp_4 hc0 hlp hpw hbn (by decide)] <;> rfl) | (have hke : k = l.length := (by omega); subst hke; rw [Sf.cp_5 hc0 hlp hpw hbad] <;> rfl)
  have hlp : ¬ p.length = l.length := by omega
  refine zO Z (zF hc13) (zr (oA hH11 Z (oA hH11 Z (zt (ret (yE (z6 (fin (hH11.sub (sC (sC (sC sR)))) (fun w' hf => (xI Z (rt Z) (rt Z))) (fun w' hf => ?_)))))))))
  first | (rw [Sf.cp_1 hcn] <;> rfl) | (rw [Sf.cp_2 hc0 hlp] <;> rfl) | (rw [Sf.cp_3 hc0 hlp hpw] <;> rfl) | (rw [Sf.cp_4 hc0 hlp hpw hbn (by decide)] <;> rfl) | (have hke : k = l.length := (by omega); subst hke; rw [Sf.cp_5 hc0 hlp hpw hbad] <;> rfl)
 have hcn : ¬ Sf.ck room l = 0 := ‹_›
 refine region (oY hH3 (zW (cs := [(.int .i64 room), v]) T.x3 Z Z (fun _ hw => Heap.yH hw (n := 0) Z (k := 0) Z)) (zM Z Z Z hH3 (zBz (h0.now hH3 (n := 1) Z) om hcn) (fun w103 hH104 => (oM hH104 Z (oY hH104 (zH Z Z) (oY hH104 (zH Z Z) (oA hH104 Z (oA hH104 Z (zt (seq (block (zr (oM hH104 Z (oY hH104 (yF Z Z) (oA hH104 Z (zt ?_))))))))))))))))
 have hc105 : ¬ ((Sf.ck room l) = 0) := hcn
 refine zO Z (zF hc105) (zr (oM hH104 Z (oA hH104 Z (oA hH104 Z (zt (ret (yE (z6 (fin (hH104.sub (sC sR)) (fun w' hf => (xI Z (rt Z) (rt Z))) (fun w' hf => ?_))))))))))
 first | (rw [Sf.cp_1 hcn] <;> rfl) | (rw [Sf.cp_2 hc0 hlp] <;> rfl) | (rw [Sf.cp_3 hc0 hlp hpw] <;> rfl) | (rw [Sf.cp_4 hc0 hlp hpw hbn (by decide)] <;> rfl) | (have hke : k = l.length := (by omega); subst hke; rw [Sf.cp_5 hc0 hlp hpw hbad] <;> rfl)
end Go.Fip
namespace Go.Fip
namespace Sf
def ends (m : Mm) (i : Nat) : Nat → List (Int × Int)
 | 0 => []
 | j + 1 => ends m i j ++ if 0 < (find ((j : Int), (i : Int)) m).getD 0 then [((j : Int), (i : Int))] else []
def lst (m : Mm) : Nat → List (Int × Int)
 | 0 => []
 | i + 1 => lst m i ++ ends m i i
theorem ends_t {m : Mm} {i j : Nat} (h : 0 < (find ((j : Int), (i : Int)) m).getD 0) : ends m i (j + 1) = ends m i j ++ [((j : Int), (i : Int))] := by show _ ++ (if _ then _ else _) = _; rw [if_pos h]
theorem ends_f {m : Mm} {i j : Nat} (h : ¬ 0 < (find ((j : Int), (i : Int)) m).getD 0) : ends m i (j + 1) = ends m i j := by show _ ++ (if _ then _ else _) = _; rw [if_neg h, List.append_nil]
theorem zBv {m : Mm} {i : Nat} : ∀ {j n : Nat}, j ≤ n → ∃ t, ends m i n = ends m i j ++ t := fun {j n} h => by
 obtain ⟨d, rfl⟩ : ∃ d, n = j + d := ⟨n - j, by omega⟩
 clear h
 induction d with
 | zero => exact ⟨[], by simp⟩
 | succ d ih =>
  obtain ⟨t, ht⟩ := ih
  exact ⟨t ++ _, by show ends m i (j + d) ++ _ = _; rw [ht, List.append_assoc]⟩
theorem zCl {m : Mm} : ∀ {i n : Nat}, i ≤ n → ∃ t, lst m n = lst m i ++ t := fun {i n} h => by
 obtain ⟨d, rfl⟩ : ∃ d, n = i + d := ⟨n - i, by omega⟩
 clear h
 induction d with
 | zero => exact ⟨[], by simp⟩
 | succ d ih =>
  obtain ⟨t, ht⟩ := ih
  exact ⟨t ++ _, by show lst m (i + d) ++ _ = _; rw [ht, List.append_assoc]⟩
theorem lst_at {m : Mm} {n i j : Nat} (hi : i < n) (hj : j < i) (h : 0 < (find ((j : Int), (i : Int)) m).getD 0) : ((lst m n).map kvS)[(lst m i ++ ends m i j).length]? = some (kvS ((j : Int), (i : Int))) := by
 obtain ⟨t, ht⟩ := zCl (m := m) (show i + 1 ≤ n from hi)
 obtain ⟨u, hu⟩ := zBv (m := m) (i := i) (show j + 1 ≤ i from hj)
 rw [ht, show lst m (i + 1) = lst m i ++ ends m i i from rfl, hu, ends_t h, List.getElem?_map]
 rw [List.append_assoc, List.append_assoc, List.append_assoc, ← List.append_assoc, List.getElem?_append_right (Nat.le_refl _), Nat.sub_self]
 rfl
theorem GI {m : Mm} {i : Nat} : ∀ j, (ends m i j).length ≤ j
 | 0 => Nat.le_refl _
 | j + 1 => by
  have := GI (m := m) (i := i) j
  by_cases h : 0 < (find ((j : Int), (i : Int)) m).getD 0
  ·rw [ends_t h, List.length_append]; simp only [List.length_cons, List.length_nil]; omega
  ·rw [ends_f h]; omega
theorem lst_len {m : Mm} : ∀ i, i ≤ 16 → (lst m i).length ≤ 16 * i
 | 0, _ => Nat.le_refl _
 | i + 1, h => by
  have h1 := lst_len (m := m) i (by omega)
  have h2 := GI (m := m) (i := i) i
  show (lst m i ++ ends m i i).length ≤ _
  rw [List.length_append]; omega
def hit (ts : List Int) (p : Int × Int) : Bool := has (fun t : Int => decide (p.1 < t ∧ t < p.2)) ts
def missed (m : Mm) (n : Nat) (ts : List Int) : Nat := ((lst m n).filter fun p => !hit ts p).length
def pv (room : Int) (l : List Int) (m : Mm) (ts : List Int) : Int := (l.length : Int) - (ts.length : Int) * (room - 1) - (missed m l.length ts : Int)
theorem mis_t {ts : List Int} {xs : List (Int × Int)} {i : Nat} (hi : i < xs.length) (h : hit ts (nth xs (i : Int)) = false) : (((xs.take (i + 1)).filter fun p => !hit ts p).length : Int) = (((xs.take i).filter fun p => !hit ts p).length : Int) + 1 := by
 rw [← qJ hi, List.filter_append]; simp [h]
theorem mis_f {ts : List Int} {xs : List (Int × Int)} {i : Nat} (hi : i < xs.length) (h : hit ts (nth xs (i : Int)) = true) : (((xs.take (i + 1)).filter fun p => !hit ts p).length : Int) = (((xs.take i).filter fun p => !hit ts p).length : Int) := by
 rw [← qJ hi, List.filter_append]; simp [h]
end Sf
end Go.Fip
namespace Go.Fip
open Go.Proofs Go.RowKit
abbrev BW (b1 bb mb : Nat) (room : Int) (v : Value) (C : List Int) (m : Sf.Mm) (l : List Int) (w : World) : Prop := Bx b1 76 [.pointer (some ⟨bb, 0, none⟩)] w ∧ Bx bb 148 (seg [.int .i64 room, v] C [.map (some mb)]) w ∧ Mp Sf.kvS Sf.vvI mb m w ∧ Rd encI 1 v l w
theorem zAt {b1 bb mb : Nat} {room : Int} {v : Value} {C l : List Int} {m : Sf.Mm} (hC : C.length = 9) (hn : l.length ≤ 16) :
  Iter Tryz.prog 186 [(.pointer (some ⟨b1, 0, none⟩))] (BW b1 bb mb room v C m l) (((Sf.lst m l.length).map Sf.kvS)) := by
 refine WS (N := 37) Tryz.func186 Z (ent Tryz.func186 kz Z) Z Z Z (fun yl J Jx hJ hJx hD hY w hH => (zr (oY hH (zE T.GY Z (fun _ hw => yM ((hD _ _ (hw.get (n := 0) Z)).1) Z)) (oY hH (yQ Z) (oY hH (zI T.vZ Z) (oY hH (zI T.vJ Z) (oY hH (xW T.xB Z (by rfl) Z (fun _ hw => ((hD _ _ (hw.get (n := 0) Z)).2.1))) (oY hH (z8 T.yS Z ((hD _ _ (hH.get (n := 0) Z)).2.2.2).is) (oM hH Z (zt (block (loop (S := Nat × Nat × World) (fun (i, q, wj) => [(12, (.int .i64 (i : Int))), (0, (.func (.yield yl) #[] #[])), (1, (.pointer (some ⟨b1, 0, none⟩))), (11, (.int .i64 (l.length : Int)))]) (fun (i, q, wj) w1 => Heap [jItem wj (J q)] w1 ∧ i ≤ l.length ∧ q = (Sf.lst m i).length) (fun (i, q, wj) => l.length - i) (0, 0, w) (uC Z (uC Z (uC Z (uC Z (Sub.nil _))))) ?_ ?_))))))))))))
 ·exact ⟨hH, om, Z⟩
 rintro ⟨i, q, wj⟩ w1 ⟨hH2, hi, hq⟩
 refine zr (oY hH2 (yL Z Z) (zt (seq ?_)))
 by_cases hc3 : (i : Int) < (l.length : Int)
 ·refine zO Z (dT hc3) (skip (zN (seq (block (zr (oM hH2 Z (oA hH2 Z (zs (oM hH2 Z (oM hH2 Z (zt (block (loop (S := Nat × Nat × World) (fun (j, q2, wj2) => [(16, (.int .i64 (j : Int))), (0, (.func (.yield yl) #[] #[])), (1, (.pointer (some ⟨b1, 0, none⟩))), (3, (.int .i64 (i : Int))), (11, (.int .i64 (l.length : Int))), (12, (.int .i64 (i : Int))), (15, (.int .i64 (i : Int)))]) (fun (j, q2, wj2) w1 => Heap [jItem wj2 (J q2)] w1 ∧ j ≤ i ∧ q2 = (Sf.lst m i ++ Sf.ends m i j).length) (fun (j, q2, wj2) => i - j) (0, q, wj) (uC Z (uC Z (uC Z (uC Z (uC Z (uC Z (uC Z (Sub.nil _)))))))) ?_ ?_)))))))))))))
  ·exact ⟨hH2, om, by rw [hq]; simp [Sf.ends]⟩
  rintro ⟨j, q2, wj2⟩ w4 ⟨hH5, hj, hq2⟩
  refine zr (oY hH5 (yL Z Z) (zt (seq ?_)))
  by_cases hc6 : (j : Int) < (i : Int)
  ·refine zO Z (dT hc6) (skip (zN (seq (block (zr (oM hH5 Z (oA hH5 Z (zs (oM hH5 Z (oM hH5 Z (oY hH5 (yR (v := (.agg #[(.int .i64 (j : Int)), (.int .i64 (i : Int))])) Z (fun w => by kernel_rfl)) (yD (z := (.agg #[(.int .i64 0), (.int .i64 0)])) (fun _ => by kernel_rfl) Z Z hH5 (fun b7 w8 hH9 => (zS (n := 0) (j := 0) Z Z hH9 Z T.GN Z Z Z (by rfl) (fun w10 hH11 => (zt (seq (zY (fun w' => True) T.mixed (fun w12 hr13 => ?_)))))))))))))))))))
   have hH14 := hH11.redrawn hr13
   refine xH [0, 4] kz Z (⟨⟨_, Z, ?_⟩, ⟨_, Z, ?_⟩, trivial⟩)
   ·refine oY hH14 (zE T.GY Z (fun _ hw => yM ((hD _ _ (hw.get (n := 1) Z)).1) Z)) (zC (⟨trivial, (zK [1, 2] kz trivial _ _ _ kz (zJ Z Z (yQ Z) (zJ Z Z (zI T.X8 Z) (zQ (xH [3, 4] kz Z (⟨⟨_, Z, ?_⟩, ⟨_, Z, ?_⟩, trivial⟩))))))⟩))
    ·refine oY hH14 (qQ (m := 9) (j := 0) T.ZE Z (by first | omega | (simp only [List.length_set]; omega)) (by rfl) Z (fun _ hw => ((hD _ _ (hw.get (n := 1) Z)).2.1))) (zC (⟨trivial, (z1 4 kz Z (oY hH14 (zW (cs := [(.int .i64 (j : Int)), (.int .i64 (i : Int))]) T.YE Z Z (fun _ hw => Heap.yH hw (n := 0) Z (k := 0) Z)) (zC (⟨trivial, (z1 5 kz Z (oY hH14 (kT (k := (((j : Int), (i : Int)) : Int × Int)) T.JZ Z Z (fun _ hw => ((hD _ _ (hw.get (n := 1) Z)).2.2.1))) (zC (⟨trivial, (zK [6, 7] kz trivial _ _ _ kz (zJ Z Z (xJ Z Z) (qM Z Z Z (zQ ?_))))⟩))))⟩))))⟩))
     by_cases hc15 : 0 < ((find (((j : Int), (i : Int)) : Int × Int) m).getD 0)
     ·have hgt : 0 < (find ((j : Int), (i : Int)) m).getD 0 := by have hq9 := (decide_eq_true hc15); simpa using hq9
      refine zK [8] kz trivial _ _ _ kz (zZ Z Z Z (dT hc15) Z (yX Z) (zQ (z1 9 kz Z (zB Z Z (dT hc15) (oY hH14 (zW (cs := [(.int .i64 (j : Int)), (.int .i64 (i : Int))]) T.YE Z Z (fun _ hw => Heap.yH hw (n := 0) Z (k := 0) Z)) (zC (⟨trivial, (z1 10 kz Z (zB Z Z (dT hc15) (uM Z Z Z (hY q2 _ (by rw [hq2]; exact Sf.lst_at om om hgt) _ (hH14.get (n := 1) Z)) (fun w16 hA17 => ?_) (fun w16 hA17 => ?_))))⟩)))))))
      ·have hH18 := xL (J := J (q2 + 1)) (hJ (q2 + 1)) hA17
       refine zC (⟨trivial, (zK [11, 12] kz trivial _ _ _ kz (zZ Z Z Z (dT hc15) Z (y6 Z) (zJ Z Z (zU Z (dT hc15) Z) (zQ (zX kz (zN (zL Z Z (skip (yC (zN (region (oY hH18 (zV Z Z om) (oM hH18 Z (zC (y0 (j + 1, q2 + 1, w16) (uC Z (uC Z (uC Z (uC Z (uC Z (uC Z (uC Z (Sub.nil _)))))))) (⟨hH18, om, by rw [Sf.ends_t hgt, ← List.append_assoc, List.length_append, ← hq2]; rfl⟩) om3)))))))))))))))⟩)
      have hH18 := xL (J := Jx) hJx hA17
      refine zC (⟨trivial, (zK [11, 12] kz trivial _ _ _ kz (zZ Z Z Z (dT hc15) Z (y6 Z) (zJ Z Z (zU Z (dT hc15) Z) (zQ (zX kz (zN (zO Z Z (ret (yE (z6 (xY (yE (yE (z6 (xY (yE ?_))))))))))))))))⟩)
      exact ⟨Z, .inr (hH18.get (n := 0) Z)⟩
     have hgf : ¬ 0 < (find ((j : Int), (i : Int)) m).getD 0 := by have hq9 := (decide_eq_false hc15); simpa using hq9
     refine zK [8, 9, 10, 11, 12] kz trivial _ _ _ kz (yO Z Z Z (dF hc15) Z (yO Z Z Z (dF hc15) Z (yO Z Z Z (dF hc15) Z (yO Z Z Z (dF hc15) Z (zJ Z Z (zT Z (dF hc15) Z) (zQ (zX kz (zN (zL Z Z (skip (yC (zN (region (oY hH14 (zV Z Z om) (oM hH14 Z (zC (y0 (j + 1, q2, wj2) (uC Z (uC Z (uC Z (uC Z (uC Z (uC Z (uC Z (Sub.nil _)))))))) (⟨(hH14.sub (sC sR)), om, by rw [Sf.ends_f hgf]; exact hq2⟩) om3)))))))))))))))))
    refine oY hH14 (zW (cs := [(.int .i64 (j : Int)), (.int .i64 (i : Int))]) T.YE Z Z (fun _ hw => Heap.yH hw (n := 0) Z (k := 0) Z)) (zC (⟨trivial, (z1 3 kz Z (oY hH14 (qQ (m := 9) (j := 0) T.ZE Z (by first | omega | (simp only [List.length_set]; omega)) (by rfl) Z (fun _ hw => ((hD _ _ (hw.get (n := 1) Z)).2.1))) (zC (⟨trivial, (z1 5 kz Z (oY hH14 (kT (k := (((j : Int), (i : Int)) : Int × Int)) T.JZ Z Z (fun _ hw => ((hD _ _ (hw.get (n := 1) Z)).2.2.1))) (zC (⟨trivial, (zK [6, 7] kz trivial _ _ _ kz (zJ Z Z (xJ Z Z) (qM Z Z Z (zQ ?_))))⟩))))⟩))))⟩))
    by_cases hc20 : 0 < ((find (((j : Int), (i : Int)) : Int × Int) m).getD 0)
    ·have hgt : 0 < (find ((j : Int), (i : Int)) m).getD 0 := by have hq9 := (decide_eq_true hc20); simpa using hq9
     refine zK [8] kz trivial _ _ _ kz (zZ Z Z Z (dT hc20) Z (yX Z) (zQ (z1 9 kz Z (zB Z Z (dT hc20) (oY hH14 (zW (cs := [(.int .i64 (j : Int)), (.int .i64 (i : Int))]) T.YE Z Z (fun _ hw => Heap.yH hw (n := 0) Z (k := 0) Z)) (zC (⟨trivial, (z1 10 kz Z (zB Z Z (dT hc20) (uM Z Z Z (hY q2 _ (by rw [hq2]; exact Sf.lst_at om om hgt) _ (hH14.get (n := 1) Z)) (fun w21 hA22 => ?_) (fun w21 hA22 => ?_))))⟩)))))))
     ·have hH23 := xL (J := J (q2 + 1)) (hJ (q2 + 1)) hA22
      refine zC (⟨trivial, (zK [11, 12] kz trivial _ _ _ kz (zZ Z Z Z (dT hc20) Z (y6 Z) (zJ Z Z (zU Z (dT hc20) Z) (zQ (zX kz (zN (zL Z Z (skip (yC (zN (region (oY hH23 (zV Z Z om) (oM hH23 Z (zC (y0 (j + 1, q2 + 1, w21) (uC Z (uC Z (uC Z (uC Z (uC Z (uC Z (uC Z (Sub.nil _)))))))) (⟨hH23, om, by rw [Sf.ends_t hgt, ← List.append_assoc, List.length_append, ← hq2]; rfl⟩) om3)))))))))))))))⟩)
     have hH23 := xL (J := Jx) hJx hA22
     refine zC (⟨trivial, (zK [11, 12] kz trivial _ _ _ kz (zZ Z Z Z (dT hc20) Z (y6 Z) (zJ Z Z (zU Z (dT hc20) Z) (zQ (zX kz (zN (zO Z Z (ret (yE (z6 (xY (yE (yE (z6 (xY (yE ?_))))))))))))))))⟩)
     exact ⟨Z, .inr (hH23.get (n := 0) Z)⟩
    have hgf : ¬ 0 < (find ((j : Int), (i : Int)) m).getD 0 := by have hq9 := (decide_eq_false hc20); simpa using hq9
    refine zK [8, 9, 10, 11, 12] kz trivial _ _ _ kz (yO Z Z Z (dF hc20) Z (yO Z Z Z (dF hc20) Z (yO Z Z Z (dF hc20) Z (yO Z Z Z (dF hc20) Z (zJ Z Z (zT Z (dF hc20) Z) (zQ (zX kz (zN (zL Z Z (skip (yC (zN (region (oY hH14 (zV Z Z om) (oM hH14 Z (zC (y0 (j + 1, q2, wj2) (uC Z (uC Z (uC Z (uC Z (uC Z (uC Z (uC Z (Sub.nil _)))))))) (⟨(hH14.sub (sC sR)), om, by rw [Sf.ends_f hgf]; exact hq2⟩) om3)))))))))))))))))
   refine oY hH14 (zW (cs := [(.int .i64 (j : Int)), (.int .i64 (i : Int))]) T.YE Z Z (fun _ hw => Heap.yH hw (n := 0) Z (k := 0) Z)) (zC (⟨trivial, (z1 0 kz Z (oY hH14 (zE T.GY Z (fun _ hw => yM ((hD _ _ (hw.get (n := 1) Z)).1) Z)) (zC (⟨trivial, (zK [1, 2] kz trivial _ _ _ kz (zJ Z Z (yQ Z) (zJ Z Z (zI T.X8 Z) (zQ (z1 3 kz Z (oY hH14 (qQ (m := 9) (j := 0) T.ZE Z (by first | omega | (simp only [List.length_set]; omega)) (by rfl) Z (fun _ hw => ((hD _ _ (hw.get (n := 1) Z)).2.1))) (zC (⟨trivial, (z1 5 kz Z (oY hH14 (kT (k := (((j : Int), (i : Int)) : Int × Int)) T.JZ Z Z (fun _ hw => ((hD _ _ (hw.get (n := 1) Z)).2.2.1))) (zC (⟨trivial, ?_⟩))))⟩))))))))⟩))))⟩))
   refine zK [6, 7] kz trivial _ _ _ kz (zJ Z Z (xJ Z Z) (qM Z Z Z (zQ ?_)))
   by_cases hc25 : 0 < ((find (((j : Int), (i : Int)) : Int × Int) m).getD 0)
   ·have hgt : 0 < (find ((j : Int), (i : Int)) m).getD 0 := by have hq9 := (decide_eq_true hc25); simpa using hq9
    refine zK [8] kz trivial _ _ _ kz (zZ Z Z Z (dT hc25) Z (yX Z) (zQ (z1 9 kz Z (zB Z Z (dT hc25) (oY hH14 (zW (cs := [(.int .i64 (j : Int)), (.int .i64 (i : Int))]) T.YE Z Z (fun _ hw => Heap.yH hw (n := 0) Z (k := 0) Z)) (zC (⟨trivial, (z1 10 kz Z (zB Z Z (dT hc25) (uM Z Z Z (hY q2 _ (by rw [hq2]; exact Sf.lst_at om om hgt) _ (hH14.get (n := 1) Z)) (fun w26 hA27 => ?_) (fun w26 hA27 => ?_))))⟩)))))))
    ·have hH28 := xL (J := J (q2 + 1)) (hJ (q2 + 1)) hA27
     refine zC (⟨trivial, (zK [11, 12] kz trivial _ _ _ kz (zZ Z Z Z (dT hc25) Z (y6 Z) (zJ Z Z (zU Z (dT hc25) Z) (zQ (zX kz (zN (zL Z Z (skip (yC (zN (region (oY hH28 (zV Z Z om) (oM hH28 Z (zC (y0 (j + 1, q2 + 1, w26) (uC Z (uC Z (uC Z (uC Z (uC Z (uC Z (uC Z (Sub.nil _)))))))) (⟨hH28, om, by rw [Sf.ends_t hgt, ← List.append_assoc, List.length_append, ← hq2]; rfl⟩) om3)))))))))))))))⟩)
    have hH28 := xL (J := Jx) hJx hA27
    refine zC (⟨trivial, (zK [11, 12] kz trivial _ _ _ kz (zZ Z Z Z (dT hc25) Z (y6 Z) (zJ Z Z (zU Z (dT hc25) Z) (zQ (zX kz (zN (zO Z Z (ret (yE (z6 (xY (yE (yE (z6 (xY (yE ?_))))))))))))))))⟩)
    exact ⟨Z, .inr (hH28.get (n := 0) Z)⟩
   have hgf : ¬ 0 < (find ((j : Int), (i : Int)) m).getD 0 := by have hq9 := (decide_eq_false hc25); simpa using hq9
   refine zK [8, 9, 10, 11, 12] kz trivial _ _ _ kz (yO Z Z Z (dF hc25) Z (yO Z Z Z (dF hc25) Z (yO Z Z Z (dF hc25) Z (yO Z Z Z (dF hc25) Z (zJ Z Z (zT Z (dF hc25) Z) (zQ (zX kz (zN (zL Z Z (skip (yC (zN (region (oY hH14 (zV Z Z om) (oM hH14 Z (zC (y0 (j + 1, q2, wj2) (uC Z (uC Z (uC Z (uC Z (uC Z (uC Z (uC Z (Sub.nil _)))))))) (⟨(hH14.sub (sC sR)), om, by rw [Sf.ends_f hgf]; exact hq2⟩) om3)))))))))))))))))
  refine zL Z (dF hc6) (exit (yZ (xF (z7 (yC (zN (region (oY hH5 (zV Z Z om) (oM hH5 Z (zC (y0 (i + 1, q2, wj2) (uC Z (uC Z (uC Z (uC Z (Sub.nil _))))) (⟨hH5, om, by rw [hq2, show j = i by omega]; rfl⟩) om3)))))))))))
 refine zL Z (dF hc3) (exit (yZ (xF (z7 ?_))))
 have hke : i = l.length := by omega
 have hql : q = ((Sf.lst m l.length).map Sf.kvS).length := by rw [hq, List.length_map, hke]
 exact ⟨Z, .inl (by rw [← hql]; exact hH2.get (n := 0) rfl)⟩
end Go.Fip
namespace Go.Fip
open Go.Proofs Go.RowKit
theorem Heap.zCq {bb lo hi n c : Nat} {H : List Item} {w : World} (hH : Heap H w)
  (hn : H[n]? = some ⟨lo, hi, fun w => ∃ c1 : Nat, (Value.func (.func 186) #[] #[.pointer (some ⟨c, 0, none⟩)] : Value) = .func (.func 186) #[] #[.pointer (some ⟨c1, 0, none⟩)] ∧ Bx c1 76 [.pointer (some ⟨bb, 0, none⟩)] w⟩) :
  Heap (H.set n ⟨lo, hi, Bx c 76 [.pointer (some ⟨bb, 0, none⟩)]⟩) w := hH.weaken hn (φ := Bx c 76 [.pointer (some ⟨bb, 0, none⟩)]) (fun w' h => by
 obtain ⟨c1, e, h⟩ := h
 cases e
 exact h)
theorem zCp {bb : Nat} {w : World}  :
  Fn Tryz.prog 158 [(.pointer (some ⟨bb, 0, none⟩))].toArray w (fun u w => ∃ c1 : Nat, u = .func (.func 186) #[] #[.pointer (some ⟨c1, 0, none⟩)] ∧ Bx c1 76 [.pointer (some ⟨bb, 0, none⟩)] w) := by
 refine fz Tryz.func158 Z kz Z Z (fun hH => (zr (yY Z Z Z hH (fun b1 w2 hH3 => (oA hH3 Z (zs (oY hH3 (vF Z Z) (oA hH3 Z (zt (ret (fin (hH3.front (n := 1) Z) (fun w' hf => (yN Z (rt Z))) (fun w' hf => ?_))))))))))))
 exact ⟨_, Z, Heap.xV hf (n := 0) Z⟩
theorem zEy {x a b : Int} {b1 : Nat} {w : World} (k1 : Bx b1 212 [.int .i64 a, .int .i64 b] w)  :
  Fn Tryz.prog 159 [(.int .i64 x), (.pointer (some ⟨b1, 0, none⟩))].toArray w (fun u _ => u = .bool (decide (a < x ∧ x < b))) := by
 refine fz Tryz.func159 Z kz Z Z (fun hH => (zr (oA hH Z (zs (oM hH Z (oY hH (zI T.X2 Z) (oY hH (zE T.yU Z (fun _ hw => yM (k1.now hw (n := 0) Z) Z)) (oY hH (xJ Z Z) (oM hH Z ?_)))))))))
 by_cases hc1 : a < x
 ·refine zB Z Z (dT hc1) (oM hH Z (zB Z Z (dT hc1) (oY hH (zI T.ZH Z) (zB Z Z (dT hc1) (oY hH (zE T.yU Z (fun _ hw => yM (k1.now hw (n := 0) Z) Z)) (zB Z Z (dT hc1) (oY hH (yL Z Z) (oY hH (zU Z (dT hc1) Z) (oA hH Z (zt (ret (fin hH (fun w' hf => (yN Z (rt Z))) (fun w' hf => ?_)))))))))))))
  first | (show Value.bool _ = Value.bool _; congr 1; rw [Bool.eq_iff_iff]; simp; done) | (show Value.bool _ = Value.bool _; congr 1; rw [Bool.eq_iff_iff]; simp; omega)
 refine zD Z Z (dF hc1) Z (zD Z Z (dF hc1) Z (zD Z Z (dF hc1) Z (zD Z Z (dF hc1) Z (oY hH (zT Z (dF hc1) Z) (oA hH Z (zt (ret (fin hH (fun w' hf => (yN Z (rt Z))) (fun w' hf => ?_)))))))))
 first | (show Value.bool _ = Value.bool _; congr 1; rw [Bool.eq_iff_iff]; simp; done) | (show Value.bool _ = Value.bool _; congr 1; rw [Bool.eq_iff_iff]; simp; omega)
theorem zD3 {v : Value} {l : List Int} {a b : Int} {b1 : Nat} {w : World} (h0 : Rd encI 1 v l w) (k1 : Bx b1 212 [.int .i64 a, .int .i64 b] w) (hn : l.length ≤ 1000000)  :
  Fn Tryz.prog 148 [v, (.func (.func 159) #[] #[(.pointer (some ⟨b1, 0, none⟩))])].toArray w (fun u _ => u = .int .i64 (idx (fun x : Int => decide (a < x ∧ x < b)) l)) := by
 refine fz Tryz.func148 Z kz Z Z (fun hH => (zr (oA hH Z (zt (seq (zr (oM hH Z (oY hH (z8 T.yS Z (h0.now hH (n := 0) Z).is) (oM hH Z (zt (block (loop (S := Nat) (fun k => [(8, (.int .i64 (k : Int))), (0, v), (1, (.func (.func 159) #[] #[(.pointer (some ⟨b1, 0, none⟩))])), (7, (.int .i64 (l.length : Int)))]) (fun k w1 => Heap [base w] w1 ∧ k ≤ l.length ∧ ∀ i, i < k → (fun x : Int => decide (a < x ∧ x < b)) (nth l (i : Int)) = false) (fun k => l.length - k) (0) (uC Z (uC Z (uC Z (uC Z (Sub.nil _))))) ?_ ?_))))))))))))
 ·exact ⟨hH, om, S.all_zero⟩
 rintro k w1 ⟨hH2, hk, hall⟩
 refine zr (oY hH2 (yL Z Z) (zt (seq ?_)))
 by_cases hc3 : (k : Int) < (l.length : Int)
 ·refine zO Z (dT hc3) (skip (zN (seq (block (zr (oM hH2 Z (oA hH2 Z (zs (oM hH2 Z (oM hH2 Z (oM hH2 Z (oY hH2 (zP T.yS Z Z (h0.now hH2 (n := 0) Z).is om) (oY hH2 (zE T.yU Z (fun _ hw => Rd.at (h0.now hw (n := 0) Z) (i := (k : Int)) om (j := 0) Z)) (zM Z Z Z hH2 (zEy (k1.now hH2 (n := 0) Z)) (fun w4 hH5 => (zt ?_))))))))))))))))
  by_cases hc6 : a < nth l (k : Int) ∧ nth l (k : Int) < b
  ·have hp : (fun x : Int => decide (a < x ∧ x < b)) (nth l (k : Int)) = true := (decide_eq_true hc6)
   refine zO Z (dT hc6) (zr (oM hH5 Z (oA hH5 Z (zt (ret (yE (z6 (xY (yE (z6 (fin hH5 (fun w' hf => (yN Z (rt Z))) (fun w' hf => ?_))))))))))))
   first | exact congrArg (Value.int .i64) (x5 (k := k) (by omega) hall hp).symm | exact congrArg (Value.int .i64) (xP (fun i hi => hall i (by omega))).symm
  have hp : (fun x : Int => decide (a < x ∧ x < b)) (nth l (k : Int)) = false := (decide_eq_false hc6)
  refine zL Z (dF hc6) (skip (yC (zN (region (oY hH5 (zV Z Z om) (oM hH5 Z (zC (y0 (k + 1) (uC Z (uC Z (uC Z (uC Z (Sub.nil _))))) (⟨hH5, om, S.all_snoc hall hp⟩) om3))))))))
 refine zL Z (dF hc3) (exit (yZ (xF (z7 (zu (oA hH2 Z (zt (ret (fin hH2 (fun w' hf => (yN Z (rt Z))) (fun w' hf => ?_))))))))))
 first | exact congrArg (Value.int .i64) (x5 (k := k) (by omega) hall hp).symm | exact congrArg (Value.int .i64) (xP (fun i hi => hall i (by omega))).symm
theorem zDf {v : Value} {l : List Int} {a b : Int} {b1 : Nat} {w : World} (h0 : Rd encI 1 v l w) (k1 : Bx b1 212 [.int .i64 a, .int .i64 b] w) (hn : l.length ≤ 1000000)  :
  Fn Tryz.prog 128 [v, (.func (.func 159) #[] #[(.pointer (some ⟨b1, 0, none⟩))])].toArray w (fun u _ => u = .bool (has (fun x : Int => decide (a < x ∧ x < b)) l)) := by
 refine fz Tryz.func128 Z kz Z Z (fun hH => (zr (oA hH Z (zs (oM hH Z (oM hH Z (zM Z Z Z hH (zD3 (h0.now hH (n := 0) Z) (k1.now hH (n := 0) Z) om) (fun w1 hH2 => (oY hH2 (vH Z Z) (oA hH2 Z (zt (ret (fin hH2 (fun w' hf => (yN Z (rt Z))) (fun w' hf => Z))))))))))))))
theorem zFs {bb mb : Nat} {room : Int} {v : Value} {C : List Int} {w : World} (kb : Bx bb 148 (seg [.int .i64 room, v] C [.map (some mb)]) w) (hC : C.length = 9) {l : List Int} (h0 : Rd encI 1 v l w) (hn : l.length ≤ 16) {m : Sf.Mm} (hm : Mp Sf.kvS Sf.vvI mb m w) {vt : Value} {ts : List Int} (ht : Rd encI 1 vt ts w) (htn : ts.length ≤ 100) (hr : 1 ≤ room ∧ room ≤ 6)  :
  Fn Tryz.prog 121 [(.pointer (some ⟨bb, 0, none⟩)), vt].toArray w (fun u _ => u = .int .i64 (Sf.pv room l m ts)) := by
 refine fz Tryz.func121 Z kz Z Z (fun hH => ?_)
 have hll := Sf.lst_len (m := m) l.length hn
 have hmb : 0 ≤ (ts.length : Int) * (room - 1) := Int.mul_nonneg (by omega) (by omega)
 have hmb2 : (ts.length : Int) * (room - 1) ≤ 100 * 5 := Int.mul_le_mul (by omega) (by omega) (by omega) (by omega)
 refine zr (yY (us := [vt]) Z (SliceIs.cells (ht.now hH (n := 0) Z).is) Z hH (fun b1 w2 hH3 => (oA hH3 Z (zt (seq (zY (fun w' => Heap [bx b1 46 [vt], base w] w') T.mixed (fun w4 hr5 => ?_)))))))
 have hH6 := hH3.redrawn hr5
 refine zK [0, 1, 2, 3, 4, 5, 6, 7, 8, 9, 10, 11, 12, 13, 14, 15] kz hH6 _ _ _ kz (qM Z Z Z (zJ Z Z (yQ Z) (zJ Z Z (zI T.vZ Z) (zJ Z Z (zI T.vJ Z) (zJ Z Z (xW T.xB Z (by rfl) Z (fun _ hw => (kb.now hw (n := 1) Z))) (zJ Z Z (z8 T.yS Z (h0.now hH6 (n := 1) Z).is) (zJ Z Z (zE T.xB Z (cw (n := 0) Z Z)) (zJ Z Z (z8 T.yS Z (ht.now hH6 (n := 1) Z).is) (qM Z Z Z (zJ Z Z (yQ Z) (zJ Z Z (zI T.vZ Z) (zJ Z Z (zI T.YS Z) (zJ Z Z (xW T.yU Z (by rfl) Z (fun _ hw => (kb.now hw (n := 1) Z))) (zJ Z Z (y8 Z Z om) (zJ Z Z (xA Z Z om) (zJ Z Z (vN (show (l.length : Int) - ((ts.length : Int) * (room - 1)) = (((l.length : Int) - (ts.length : Int) * (room - 1) - ((((Sf.lst m l.length).take 0).filter fun p => !Sf.hit ts p).length : Int))) from (by rw [List.take_zero, List.filter_nil, List.length_nil]; exact (Int.sub_zero _).symm)) (y8 Z Z om)) (zQ (z1 16 kz Z (yD (z := (.int .i64 0)) (fun _ => by kernel_rfl) Z Z hH6 (fun b7 w8 hH9 => (zC ?_)))))))))))))))))))))
 refine ⟨(hH9.sub (sC sR)), (z1 17 kz Z (zS (n := 0) (j := 0) Z Z hH9 Z T.sz3 Z Z Z (by rfl) (fun w10 hH11 => (zC (⟨(hH11.sub (sC sR)), (zX kz (zN (seq (zr (oM hH11 Z (yV Z Z Z hH11 (zCp) (fun u15 w13 lo16 hi17 hH14 hv18 => ?_)))))))⟩)))))⟩
 obtain ⟨c12, hu, -⟩ := hv18
 subst hu
 have hH19 := Heap.zCq hH14 (n := 0) Z
 refine zt (block (rangeFunc (xs := ((Sf.lst m l.length).map Sf.kvS)) Z (zAt (bb := bb) (mb := mb) (room := room) (v := v) (C := C) (l := l) (m := m) hC hn) Z hH19 (fun i H => H = [⟨lo16, hi17, Bx c12 76 [.pointer (some ⟨bb, 0, none⟩)]⟩, bx b7 3 [(.int .i64 (((l.length : Int) - (ts.length : Int) * (room - 1) - ((((Sf.lst m l.length).take i).filter fun p => !Sf.hit ts p).length : Int))))], bx b1 46 [vt], base w] ∧ True) (fun c H => False) ⟨Z, trivial⟩ (fun i H w hI hw => ?_) (fun l20 D21 i22 x23 H w25 rc hx24 hI hH26 => ?_) (fun D21 H w25 hI hH26 => ?_) (fun D21 c H w25 hI hH26 => ?_)))
 ·obtain ⟨rfl, _⟩ := hI
  exact (show BW c12 bb mb room v C m l _ from ⟨hw.get (n := 0) Z, kb.now hw (n := 3) Z, hm.now hw (n := 3) Z, h0.now hw (n := 3) Z⟩)
 ·obtain ⟨rfl, _⟩ := hI
  obtain ⟨hlt, hxe⟩ := j6 hx24
  subst hxe
  have hcl := List.length_filter_le (fun p => !Sf.hit ts p) ((Sf.lst m l.length).take i22)
  have hcl2 := List.length_take_le i22 (Sf.lst m l.length)
  refine region (yD (z := (.agg #[(.int .i64 0), (.int .i64 0)])) (fun _ => by kernel_rfl) Z Z hH26 (fun b29 w30 hH31 => (zS (n := 0) (j := 0) Z Z hH31 Z T.GN Z Z Z (by rfl) (fun w32 hH33 => (zC (⟨_, (hH33.front (n := 1) Z), fun w34 hH35 => (block (zr (oY hH35 (zE T.xB Z (cw (n := 5) Z Z)) (oY hH35 (vF Z Z) (zM Z Z Z hH35 (zDf (ht.now hH35 (n := 6) Z) (Heap.xV hH35 (n := 1) Z) om) (fun w37 hH38 => (oY hH38 (y6 Z) (zt ?_))))))))⟩))))))
  by_cases hc39 : (!(Sf.hit ts ((nth (Sf.lst m l.length) (i22 : Int)).1, (nth (Sf.lst m l.length) (i22 : Int)).2))) = true
  ·have hnh : Sf.hit ts (nth (Sf.lst m l.length) (i22 : Int)) = false := by have hq := hc39; simpa using hq
   refine zO Z hc39 (region (oY hH38 (zE T.yU Z (cw (n := 4) Z Z)) (oY hH38 (y8 Z Z om) (zS (n := 4) (j := 0) Z Z hH38 Z T.sz3 Z Z Z (by rfl) (fun w40 hH41 => (zC (yC ?_)))))))
   exact ⟨_, ⟨_, ⟨Z, trivial⟩, Z⟩, (Heap.y9 (n := 3) (hH41.sub (sK (sC sR))) Z (by first | exact congrArg (fun z => [Value.int .i64 z]) (by rw [Sf.mis_t hlt hnh]; omega) | exact congrArg (fun z => [Value.int .i64 z]) (by rw [Sf.mis_f hlt hht])))⟩
  have hht : Sf.hit ts (nth (Sf.lst m l.length) (i22 : Int)) = true := by have hq := (Bool.eq_false_iff.2 hc39); simpa using hq
  refine zL Z (Bool.eq_false_iff.2 hc39) (skip (yC ?_))
  exact ⟨_, ⟨_, ⟨Z, trivial⟩, Z⟩, (Heap.y9 (n := 3) (hH38.sub (sK (sC sR))) Z (by first | exact congrArg (fun z => [Value.int .i64 z]) (by rw [Sf.mis_t hlt hnh]; omega) | exact congrArg (fun z => [Value.int .i64 z]) (by rw [Sf.mis_f hlt hht])))⟩
 ·obtain ⟨rfl, _⟩ := hI
  have hH44 := hH26.perm (List.perm_append_comm (l₁ := [_]))
  refine yC (zu (oY hH44 (zE T.yU Z (cw (n := 1) Z Z)) (oA hH44 Z (zt (ret (kY (H := []) [D21] (hH44.sub (sC (sC (sC sR)))) (fun w' hf => (yN Z (rt Z))) (fun w' hf => ?_)))))))
  rw [List.length_map, List.take_length]; rfl
 exact hI.elim
end Go.Fip
namespace Go.Fip
namespace Sf
def gap (l : List Int) (j i : Int) : Prop := nth l j = nth l i ∧ ¬ btw l j i
instance (l : List Int) (j i : Int) : Decidable (gap l j i) := by unfold gap; infer_instance
def gaps (l : List Int) (i : Nat) : Nat → List (Int × Int)
 | 0 => []
 | j + 1 => gaps l i j ++ if gap l (j : Int) (i : Int) then [((j : Int), (i : Int))] else []
def gl (l : List Int) : Nat → List (Int × Int)
 | 0 => []
 | i + 1 => gl l i ++ gaps l i i
theorem Full.pos {l : List Int} {m : Mm} {room : Int} (h : Full l m) (hd : Day room l) {i j : Nat} (hj : j < i) (hi : i < l.length) : 0 < (find ((j : Int), (i : Int)) m).getD 0 ↔ gap l (j : Int) (i : Int) := by
 constructor
 ·intro h0
  cases hf : find ((j : Int), (i : Int)) m with
  | none => rw [hf] at h0; simp at h0
  | some v =>
   obtain ⟨a, b, e, h1, h2, h3, h4, h5⟩ := h.only _ v hf
   simp only [Prod.mk.injEq] at e
   rw [e.1, e.2]
   exact ⟨h3, h5⟩
 ·rintro ⟨h1, h2⟩
  have := hd.at (i := i) hi
  rw [h.has j i hj hi h1 h2]
  simp only [Option.getD_some]; omega
theorem Full.ends {l : List Int} {m : Mm} {room : Int} (h : Full l m) (hd : Day room l) {i : Nat} (hi : i < l.length) : ∀ j, j ≤ i → Sf.ends m i j = gaps l i j
 | 0, _ => rfl
 | j + 1, hj => by
  have ih := Full.ends h hd hi j (by omega)
  have hp := h.pos hd (show j < i by omega) hi
  show _ ++ (if _ then _ else _) = _ ++ (if _ then _ else _)
  rw [ih]
  by_cases hg : gap l (j : Int) (i : Int)
  ·rw [if_pos hg, if_pos (hp.2 hg)]
  ·rw [if_neg hg, if_neg (fun h0 => hg (hp.1 h0))]
theorem Full.lst {l : List Int} {m : Mm} {room : Int} (h : Full l m) (hd : Day room l) : ∀ i, i ≤ l.length → Sf.lst m i = gl l i
 | 0, _ => rfl
 | i + 1, hi => by
  show Sf.lst m i ++ Sf.ends m i i = gl l i ++ gaps l i i
  rw [Full.lst h hd i (by omega), h.ends hd (by omega) i (Nat.le_refl _)]
def pvl (room : Int) (l ts : List Int) : Int := (l.length : Int) - (ts.length : Int) * (room - 1) - (((gl l l.length).filter fun p => !hit ts p).length : Int)
theorem Full.pv {l : List Int} {m : Mm} {room : Int} (h : Full l m) (hd : Day room l) {ts : List Int} : Sf.pv room l m ts = pvl room l ts := by
 unfold Sf.pv missed pvl; rw [h.lst hd l.length (Nat.le_refl _)]
def low (ts : List Int) : Nat → Int
 | 0 => 0
 | k + 1 => nth ts (k : Int) + 1
def inT (n : Nat) (ts : List Int) (k : Nat) : Prop := low ts k ≤ nth ts (k : Int) ∧ nth ts (k : Int) ≤ (n : Int) - 1
instance (n : Nat) (ts : List Int) (k : Nat) : Decidable (inT n ts k) := by unfold inT; infer_instance
def tOk (n : Nat) (ts : List Int) : Prop := ∀ k, k < ts.length → inT n ts k
instance (n : Nat) (ts : List Int) : Decidable (tOk n ts) := by unfold tOk; exact Nat.decidableBallLT _ _
theorem low_le {n : Nat} {ts : List Int} : ∀ {k : Nat}, k ≤ ts.length → (∀ j, j < k → inT n ts j) → (k : Int) ≤ low ts k ∧ (k = 0 ∨ low ts k ≤ (n : Int))
 | 0, _, _ => ⟨by show ((0 : Nat) : Int) ≤ 0; omega, .inl rfl⟩
 | k + 1, h, ha => by
  have ih := low_le (n := n) (k := k) (by omega) (fun j hj => ha j (by omega))
  have := ha k (by omega)
  unfold inT at this
  refine ⟨?_, .inr ?_⟩
  ·show ((k + 1 : Nat) : Int) ≤ nth ts (k : Int) + 1; omega
  ·show nth ts (k : Int) + 1 ≤ (n : Int); omega
theorem tOk_len {n : Nat} {ts : List Int} (h : tOk n ts) : ts.length ≤ n := by
 have := low_le (n := n) (Nat.le_refl ts.length) h
 omega
def ct (room : Int) (l ts : List Int) : Int × Int := if ¬ ck room l = 0 then (0, ck room l) else if ¬ tOk l.length ts then (0, 3) else (pvl room l ts, 0)
theorem ct_1 {room : Int} {l ts : List Int} (h : ¬ ck room l = 0) : ct room l ts = (0, ck room l) := if_pos h
theorem ct_2 {room : Int} {l ts : List Int} (h : ck room l = 0) {k : Nat} (hk : k < ts.length) (h2 : ¬ inT l.length ts k) : ct room l ts = (0, 3) := by unfold ct; rw [if_neg (fun hh => hh h), if_pos (fun ht => h2 (ht k hk))]
theorem ct_3 {room : Int} {l ts : List Int} (h : ck room l = 0) (h2 : tOk l.length ts) : ct room l ts = (pvl room l ts, 0) := by unfold ct; rw [if_neg (fun hh => hh h), if_neg (fun hh => hh h2)]
end Sf
end Go.Fip
namespace Go.Fip
open Go.Proofs Go.RowKit
theorem c55 {v : Value} {l : List Int} {room : Int} {w : World} (h0 : Rd encI 1 v l w) (hn : l.length ≤ 1000000) {vt : Value} {ts : List Int} (ht : Rd encI 1 vt ts w) (htn : ts.length ≤ 1000000)  :
  Fn Tryz.prog 55 [(.agg #[(.int .i64 room), v]), vt].toArray w (fun u _ => u = .tuple #[.int .i64 (Sf.ct room l ts).1, .int .i64 (Sf.ct room l ts).2]) := by
 refine fz Tryz.func55 Z kz Z Z (fun hH => (zr (yY Z Z Z hH (fun b1 w2 hH3 => (oA hH3 Z (oA hH3 Z (zt (seq ?_))))))))
 by_cases hc4 : Sf.ck room l = 0
 ·have hc0 : Sf.ck room l = 0 := ‹_›
  have hday := Sf.ck_iff.1 hc0
  have hd1 := hday.r1
  have hd2 := hday.r2
  have hd3 := hday.n
  refine region (oY hH3 (zW (cs := [(.int .i64 room), v]) T.x3 Z Z (fun _ hw => Heap.yH hw (n := 0) Z (k := 0) Z)) (yV Z Z Z hH3 (KD (h0.now hH3 (n := 1) Z) om hc0) (fun u7 w5 lo8 hi9 hH6 hv10 => ?_)))
  obtain ⟨bbD12, hu, hrowD12⟩ := hv10
  subst hu
  obtain ⟨mbD12, mmD12, hfullD12, hH11⟩ := Heap.VK hH6 (n := 0) rfl (fun w' h => by obtain ⟨rb', e, h⟩ := h; cases e; exact h)
  refine oM hH11 Z (oY hH11 (zH Z Z) (oY hH11 (zH Z Z) (oA hH11 Z (oA hH11 Z (zt (seq (zr (oM hH11 Z (oY hH11 (yF Z Z) (zt (zL Z Z (skip (zu (oA hH11 Z (zt ?_)))))))))))))))
  refine seq (zr (oM hH11 Z (oY hH11 (z8 T.yS Z (ht.now hH11 (n := 3) Z).is) (oM hH11 Z (zt (block (loop (S := Nat) (fun k => [(21, (.int .i64 (k : Int))), (8, (.int .i64 (Sf.low ts k))), (1, vt), (2, (.pointer (some ⟨b1, 0, none⟩))), (6, (.pointer (some ⟨bbD12, 0, none⟩))), (19, vt), (20, (.int .i64 (ts.length : Int)))]) (fun k w1 => Heap [mp Sf.kvS Sf.vvI mbD12 mmD12, bx bbD12 148 (seg [(.int .i64 room), v] (List.replicate 9 0) [(.map (some mbD12))]), bx b1 51 [(.int .i64 room), v], base w] w1 ∧ k ≤ ts.length ∧ ∀ j, j < k → Sf.inT l.length ts j) (fun k => ts.length - k) (0) (uC Z (uC Z (uC Z (uC Z (uC Z (uC Z (uC Z (Sub.nil _)))))))) ?_ ?_)))))))
  ·exact ⟨hH11, om, (fun j h => absurd h (Nat.not_lt_zero _))⟩
  rintro k w13 ⟨hH14, hk, hall⟩
  obtain ⟨hlo1, hlo2⟩ := Sf.low_le hk hall
  refine zr (oY hH14 (yL Z Z) (zt (seq ?_)))
  by_cases hc15 : (k : Int) < (ts.length : Int)
  ·refine zO Z (dT hc15) (skip (zN (seq (block (zr (oY hH14 (zP T.yS Z Z (ht.now hH14 (n := 3) Z).is om) (oY hH14 (zE T.yU Z (fun _ hw => Rd.at (ht.now hw (n := 3) Z) (i := (k : Int)) om (j := 0) Z)) (oA hH14 Z (zt (seq (zr (oM hH14 Z (oY hH14 (zI T.vJ Z) (oY hH14 (zE T.xB Z (cw (n := 2) Z Z)) (oY hH14 (z8 T.yS Z (h0.now hH14 (n := 3) Z).is) (oY hH14 (y8 Z Z om) (oM hH14 Z (z2 T.zA [nth ts (k : Int)] Z (fun w => by kernel_rfl) hH14 (fun u16 lo18 hi19 w17 hH20 => ?_)))))))))))))))))))
   refine zM Z Z Z hH20 (G7 (Heap.yI T.zA hH20 (n := 0) Z)) (fun w21 hH22 => (oY hH22 (y6 Z) (zt ?_)))
   by_cases hc23 : (Sf.low ts k) ≤ nth ts (k : Int) ∧ nth ts (k : Int) ≤ (l.length : Int) - 1
   ·have hgd : Sf.inT l.length ts k := by have hq := (zG hc23); unfold Sf.inT; simpa using hq
    have hgd2 : Sf.low ts k ≤ nth ts (k : Int) ∧ nth ts (k : Int) ≤ (l.length : Int) - 1 := hgd
    refine zL Z (zG hc23) (skip (zN (region (oM hH22 Z (oY hH22 (zV Z Z om) (oA hH22 Z (zC (yC (zN (region (oY hH22 (zV Z Z om) (oM hH22 Z (zC (y0 (k + 1) (uC Z (uC Z (uC Z (uC Z (uC Z (uC Z (uC Z (Sub.nil _)))))))) (⟨(hH22.sub (sC sR)), om, (fun j hj => by rcases Nat.lt_or_ge j k with h | h; exact hall j h; rw [show j = k by omega]; exact hgd)⟩) om3))))))))))))))
   have hbt : ¬ Sf.inT l.length ts k := by have hq := (zF hc23); unfold Sf.inT; simp at hq; omega
   refine zO Z (zF hc23) (zr (oA hH22 Z (oA hH22 Z (zt (ret (z6 (yE (z6 (xY (yE (z6 (fin (hH22.sub (sC (sC (sC (sC sR))))) (fun w' hf => (xI Z (rt Z) (rt Z))) (fun w' hf => ?_)))))))))))))
   first | (rw [Sf.ct_1 hcn] <;> rfl) | (rw [Sf.ct_2 hc0 (k := k) (by omega) hbt] <;> rfl) | (rw [Sf.ct_3 hc0 htk, hfullD12.pv hday] <;> rfl)
  refine zL Z (dF hc15) (exit (yZ (xF (z7 (zN (seq ?_))))))
  have htk : Sf.tOk l.length ts := fun j hj => hall j (by omega)
  have htl := Sf.tOk_len htk
  refine region (oM hH14 Z (oM hH14 Z (zM Z Z Z hH14 (zFs (Heap.xV hH14 (n := 1) Z) (by first | omega | assumption | (simp only [List.length_set, List.length_replicate]; done) | (simp only [List.length_set]; omega)) (h0.now hH14 (n := 3) Z) om (Heap.kJ hH14 (n := 0) Z) (ht.now hH14 (n := 3) Z) om ⟨om, om⟩) (fun w26 hH27 => (oA hH27 Z (oA hH27 Z (zt (ret (fin (hH27.sub (sC (sC (sC sR)))) (fun w' hf => (xI Z (rt Z) (rt Z))) (fun w' hf => ?_))))))))))
  first | (rw [Sf.ct_1 hcn] <;> rfl) | (rw [Sf.ct_2 hc0 (k := k) (by omega) hbt] <;> rfl) | (rw [Sf.ct_3 hc0 htk, hfullD12.pv hday] <;> rfl)
 have hcn : ¬ Sf.ck room l = 0 := ‹_›
 refine region (oY hH3 (zW (cs := [(.int .i64 room), v]) T.x3 Z Z (fun _ hw => Heap.yH hw (n := 0) Z (k := 0) Z)) (zM Z Z Z hH3 (zBz (h0.now hH3 (n := 1) Z) om hcn) (fun w29 hH30 => (oM hH30 Z (oY hH30 (zH Z Z) (oY hH30 (zH Z Z) (oA hH30 Z (oA hH30 Z (zt (seq (zr (oM hH30 Z (oY hH30 (yF Z Z) (zt ?_))))))))))))))
 have hc31 : ¬ ((Sf.ck room l) = 0) := hcn
 refine zO Z (zF hc31) (zr (oM hH30 Z (oA hH30 Z (oA hH30 Z (zt (ret (z6 (fin (hH30.sub (sC sR)) (fun w' hf => (xI Z (rt Z) (rt Z))) (fun w' hf => ?_)))))))))
 first | (rw [Sf.ct_1 hcn] <;> rfl) | (rw [Sf.ct_2 hc0 (k := k) (by omega) hbt] <;> rfl) | (rw [Sf.ct_3 hc0 htk, hfullD12.pv hday] <;> rfl)
end Go.Fip
namespace Go.Fip
open Go.Proofs Go.RowKit
theorem c60 {v u : Value} {a b : List Int} {w : World} (h0 : Rd encI 1 v a w) (h1 : Rd encI 1 u b w) (hn : a.length ≤ 1000000) (hm : b.length ≤ 1000000)  :
  Fn Tryz.prog 60 [v, u].toArray w (fun u _ => u = .bool (decide (a = b))) := by
 refine fz Tryz.func60 Z kz Z Z (fun hH => (zr (oA hH Z (zt (seq (zr (oM hH Z (oY hH (z8 T.yS Z (h0.now hH (n := 0) Z).is) (oM hH Z (oY hH (z8 T.yS Z (h1.now hH (n := 0) Z).is) (oY hH (yF Z Z) (zt ?_))))))))))))
 by_cases hc1 : (a.length : Int) = (b.length : Int)
 ·have hl : a.length = b.length := by omega
  refine zL Z (zG hc1) (skip (zN (seq (zr (oA hH Z (zt (block (loop (S := Nat) (fun k => [(5, (.int .i64 (k : Int))), (0, v), (1, u)]) (fun k w1 => Heap [base w] w1 ∧ k ≤ a.length ∧ ∀ i : Nat, i < k → nth a (i : Int) = nth b (i : Int)) (fun k => a.length - k) (0) (uC Z (uC Z (uC Z (Sub.nil _)))) ?_ ?_))))))))
  ·exact ⟨hH, om, (fun i h => absurd h (Nat.not_lt_zero _))⟩
  rintro k w2 ⟨hH3, hk, hall⟩
  refine seq (zr (oM hH3 Z (oM hH3 Z (oY hH3 (z8 T.yS Z (h0.now hH3 (n := 0) Z).is) (oY hH3 (yL Z Z) (zt ?_))))))
  by_cases hc4 : (k : Int) < (a.length : Int)
  ·refine zO Z (dT hc4) (skip (zN (seq (block (seq (zY (fun w' => Heap [base w] w') T.mixed (fun w5 hr6 => ?_)))))))
   have hH7 := hH3.redrawn hr6
   refine zK [0, 1, 2, 3, 4, 5, 6, 7, 8] kz hH7 _ _ _ kz (qM Z Z Z (qM Z Z Z (zJ Z Z (zP T.yS Z Z (h0.now hH7 (n := 0) Z).is om) (zJ Z Z (zE T.yU Z (fun _ hw => Rd.at (h0.now hw (n := 0) Z) (i := (k : Int)) om (j := 0) Z)) (qM Z Z Z (qM Z Z Z (zJ Z Z (zP T.yS Z Z (h1.now hH7 (n := 0) Z).is om) (zJ Z Z (zE T.yU Z (fun _ hw => Rd.at (h1.now hw (n := 0) Z) (i := (k : Int)) om (j := 0) Z)) (zJ Z Z (yF Z Z) (zQ (zX kz (zN ?_))))))))))))
   by_cases hc8 : (nth a (k : Int)) = (nth b (k : Int))
   ·have heq : nth a (k : Int) = nth b (k : Int) := by have hq := (zG hc8); simpa using hq
    refine zL Z (zG hc8) (skip (yC (zN (region (oM hH7 Z (oY hH7 (zV Z Z om) (oA hH7 Z (zC (y0 (k + 1) (uC Z (uC Z (uC Z (Sub.nil _)))) (⟨hH7, om, (fun i hi => by rcases Nat.lt_or_ge i k with h | h; exact hall i h; rw [show i = k by omega]; exact heq)⟩) om3)))))))))
   have hne : ¬ a = b := fun h => by have hq := (zF hc8); rw [h] at hq; simp at hq
   refine zO Z (zF hc8) (zr (oA hH7 Z (zt (ret (yE (z6 (xY (yE (z6 (fin hH7 (fun w' hf => (yN Z (rt Z))) (fun w' hf => ?_)))))))))))
   first | (rw [decide_eq_false hne]; done) | (rw [decide_eq_true (List.ext_getElem hl (fun i h1 h2 => by have h3 := hall i (by omega); rwa [yG h1, yG h2] at h3))]; done)
  refine zL Z (dF hc4) (exit (yZ (xF (z7 (zu (oA hH3 Z (zt (ret (fin hH3 (fun w' hf => (yN Z (rt Z))) (fun w' hf => ?_))))))))))
  first | (rw [decide_eq_false hne]; done) | (rw [decide_eq_true (List.ext_getElem hl (fun i h1 h2 => by have h3 := hall i (by omega); rwa [yG h1, yG h2] at h3))]; done)
 have hne : ¬ a = b := fun h => absurd (congrArg List.length h) (by omega)
 refine zO Z (zF hc1) (zr (oA hH Z (zt (ret (z6 (fin hH (fun w' hf => (yN Z (rt Z))) (fun w' hf => ?_)))))))
 first | (rw [decide_eq_false hne]; done) | (rw [decide_eq_true (List.ext_getElem hl (fun i h1 h2 => by have h3 := hall i (by omega); rwa [yG h1, yG h2] at h3))]; done)
theorem zC9 {v : Value} {l : List Int} {room : Int} {w : World} (h0 : Rd encI 1 v l w) (hn : l.length ≤ 1000000)  :
  Fn Tryz.prog 125 [(.agg #[(.int .i64 room), v])].toArray w (fun u _ => u = .int .i64 (Sf.ck room l)) := by
 refine fz Tryz.func125 Z kz Z Z (fun hH => (zr (yY Z Z Z hH (fun b1 w2 hH3 => (oA hH3 Z (zt (seq (zr (oY hH3 (zI T.YS Z) (oY hH3 (zE T.yU Z (cw (n := 0) Z Z)) (oY hH3 (yL Z Z) (oM hH3 Z ?_))))))))))))
 by_cases hc4 : room < 1
 ·have hr : ¬ (1 ≤ room ∧ room ≤ 6) := by have hq := (decide_eq_true hc4); simp at hq; omega
  refine zD Z Z (dT hc4) Z (zD Z Z (dT hc4) Z (zD Z Z (dT hc4) Z (oY hH3 (zU Z (dT hc4) Z) (zt (zO Z Z (zr (oA hH3 Z (zt (ret (z6 (fin (hH3.sub (sC sR)) (fun w' hf => (yN Z (rt Z))) (fun w' hf => ?_))))))))))))
  first | exact congrArg (Value.int .i64) (Sf.ck1 hr) | exact congrArg (Value.int .i64) (Sf.ck2 hr hm) | exact congrArg (Value.int .i64) (Sf.ck3 hr hm hw) | exact congrArg (Value.int .i64) (Sf.ck4 hr hm hw)
 refine zB Z Z (dF hc4) (oY hH3 (zI T.YS Z) (zB Z Z (dF hc4) (oY hH3 (zE T.yU Z (cw (n := 0) Z Z)) (zB Z Z (dF hc4) (oY hH3 (xJ Z Z) (oY hH3 (zT Z (dF hc4) Z) (zt ?_)))))))
 by_cases hc6 : 6 < room
 ·have hr : ¬ (1 ≤ room ∧ room ≤ 6) := by have hq := (decide_eq_true hc6); simp at hq; omega
  refine zO Z (dT hc6) (zr (oA hH3 Z (zt (ret (z6 (fin (hH3.sub (sC sR)) (fun w' hf => (yN Z (rt Z))) (fun w' hf => ?_)))))))
  first | exact congrArg (Value.int .i64) (Sf.ck1 hr) | exact congrArg (Value.int .i64) (Sf.ck2 hr hm) | exact congrArg (Value.int .i64) (Sf.ck3 hr hm hw) | exact congrArg (Value.int .i64) (Sf.ck4 hr hm hw)
 have hr : 1 ≤ room ∧ room ≤ 6 := by have hq := (decide_eq_false hc6); simp at hq; omega
 refine zL Z (dF hc6) (skip (zN (seq (zr (oY hH3 (zI T.vJ Z) (oY hH3 (zE T.xB Z (cw (n := 0) Z Z)) (oY hH3 (z8 T.yS Z (h0.now hH3 (n := 1) Z).is) (oY hH3 (xJ Z Z) (zt ?_)))))))))
 by_cases hc8 : 16 < (l.length : Int)
 ·have hm : 16 < l.length := by omega
  refine zO Z (dT hc8) (zr (oA hH3 Z (zt (ret (z6 (fin (hH3.sub (sC sR)) (fun w' hf => (yN Z (rt Z))) (fun w' hf => ?_)))))))
  first | exact congrArg (Value.int .i64) (Sf.ck1 hr) | exact congrArg (Value.int .i64) (Sf.ck2 hr hm) | exact congrArg (Value.int .i64) (Sf.ck3 hr hm hw) | exact congrArg (Value.int .i64) (Sf.ck4 hr hm hw)
 have hm : ¬ 16 < l.length := by omega
 refine zL Z (dF hc8) (skip (zN (seq (zr (oA hH3 Z (zt (block (loop (S := Nat) (fun k => [(3, (.int .i64 (k : Int))), (1, (.pointer (some ⟨b1, 0, none⟩)))]) (fun k w1 => Heap [bx b1 51 [(.int .i64 room), v], base w] w1 ∧ k ≤ l.length ∧ ∀ i : Nat, i < k → 1 ≤ nth l (i : Int) ∧ nth l (i : Int) ≤ 8) (fun k => l.length - k) (0) (uC Z (uC Z (Sub.nil _))) ?_ ?_))))))))
 ·exact ⟨hH3, om, (fun i h => absurd h (Nat.not_lt_zero _))⟩
 rintro k w10 ⟨hH11, hk, hall⟩
 refine seq (zr (oM hH11 Z (oY hH11 (zI T.vJ Z) (oY hH11 (zE T.xB Z (cw (n := 0) Z Z)) (oY hH11 (z8 T.yS Z (h0.now hH11 (n := 1) Z).is) (oY hH11 (yL Z Z) (zt ?_)))))))
 by_cases hc12 : (k : Int) < (l.length : Int)
 ·refine zO Z (dT hc12) (skip (zN (seq (block (zr (oY hH11 (zI T.vJ Z) (oY hH11 (zE T.xB Z (cw (n := 0) Z Z)) (oM hH11 Z (oY hH11 (zP T.yS Z Z (h0.now hH11 (n := 1) Z).is om) (oY hH11 (zE T.yU Z (fun _ hw => Rd.at (h0.now hw (n := 1) Z) (i := (k : Int)) om (j := 0) Z)) (oY hH11 (yL Z Z) (oM hH11 Z ?_))))))))))))
  by_cases hc13 : (nth l (k : Int)) < 1
  ·have hw : ¬ ∀ x ∈ l, 1 ≤ x ∧ x ≤ 8 := fun h => by have h3 := h (nth l (k : Int)) (by rw [yG (by omega)]; exact List.getElem_mem (by omega)); omega
   refine zD Z Z (dT hc13) Z (zD Z Z (dT hc13) Z (zD Z Z (dT hc13) Z (zD Z Z (dT hc13) Z (zD Z Z (dT hc13) Z (zD Z Z (dT hc13) Z (oY hH11 (zU Z (dT hc13) Z) (zt (zO Z Z (zr (oA hH11 Z (zt (ret (yE (z6 (xY (yE (z6 (fin (hH11.sub (sC sR)) (fun w' hf => (yN Z (rt Z))) (fun w' hf => ?_)))))))))))))))))))
   first | exact congrArg (Value.int .i64) (Sf.ck1 hr) | exact congrArg (Value.int .i64) (Sf.ck2 hr hm) | exact congrArg (Value.int .i64) (Sf.ck3 hr hm hw) | exact congrArg (Value.int .i64) (Sf.ck4 hr hm hw)
  refine zB Z Z (dF hc13) (oY hH11 (zI T.vJ Z) (zB Z Z (dF hc13) (oY hH11 (zE T.xB Z (cw (n := 0) Z Z)) (zB Z Z (dF hc13) (oM hH11 Z (zB Z Z (dF hc13) (oY hH11 (zP T.yS Z Z (h0.now hH11 (n := 1) Z).is om) (zB Z Z (dF hc13) (oY hH11 (zE T.yU Z (fun _ hw => Rd.at (h0.now hw (n := 1) Z) (i := (k : Int)) om (j := 0) Z)) (zB Z Z (dF hc13) (oY hH11 (xJ Z Z) (oY hH11 (zT Z (dF hc13) Z) (zt ?_)))))))))))))
  by_cases hc15 : 8 < (nth l (k : Int))
  ·have hw : ¬ ∀ x ∈ l, 1 ≤ x ∧ x ≤ 8 := fun h => by have h3 := h (nth l (k : Int)) (by rw [yG (by omega)]; exact List.getElem_mem (by omega)); omega
   refine zO Z (dT hc15) (zr (oA hH11 Z (zt (ret (yE (z6 (xY (yE (z6 (fin (hH11.sub (sC sR)) (fun w' hf => (yN Z (rt Z))) (fun w' hf => ?_)))))))))))
   first | exact congrArg (Value.int .i64) (Sf.ck1 hr) | exact congrArg (Value.int .i64) (Sf.ck2 hr hm) | exact congrArg (Value.int .i64) (Sf.ck3 hr hm hw) | exact congrArg (Value.int .i64) (Sf.ck4 hr hm hw)
  have hgd : 1 ≤ nth l (k : Int) ∧ nth l (k : Int) ≤ 8 := by omega
  refine zL Z (dF hc15) (skip (yC (zN (region (oM hH11 Z (oY hH11 (zV Z Z om) (oA hH11 Z (zC (y0 (k + 1) (uC Z (uC Z (Sub.nil _))) (⟨hH11, om, (fun i hi => by rcases Nat.lt_or_ge i k with h | h; exact hall i h; rw [show i = k by omega]; exact hgd)⟩) om3)))))))))
 have hw : ∀ x ∈ l, 1 ≤ x ∧ x ≤ 8 := fun x hx => by obtain ⟨i, hi, rfl⟩ := List.getElem_of_mem hx; have h3 := hall i (by omega); rwa [yG hi] at h3
 refine zL Z (dF hc12) (exit (yZ (xF (z7 (zu (oA hH11 Z (zt (ret (fin (hH11.sub (sC sR)) (fun w' hf => (yN Z (rt Z))) (fun w' hf => ?_))))))))))
 first | exact congrArg (Value.int .i64) (Sf.ck1 hr) | exact congrArg (Value.int .i64) (Sf.ck2 hr hm) | exact congrArg (Value.int .i64) (Sf.ck3 hr hm hw) | exact congrArg (Value.int .i64) (Sf.ck4 hr hm hw)
end Go.Fip
namespace Go.Fip
namespace Sf
theorem zAo {l : List Int} {k j : Nat} (h1 : k < j) (h2 : j < l.length) (ha : ∀ t : Nat, k < t → t < j → ¬ nth l (t : Int) = nth l (k : Int)) (he : nth l (j : Int) = nth l (k : Int)) : next l (nth l (k : Int)) (k : Int) = (j : Int) := by
 have e : ((k : Int) + 1).toNat = k + 1 := by omega
 have hd : ∀ i : Nat, nth (l.drop (k + 1)) (i : Int) = nth l ((k + 1 + i : Nat) : Int) := fun i => by
  exact uK l (k + 1) i
 have hp : S.place (l.drop (k + 1)) (nth l (k : Int)) = ((j - k - 1 : Nat) : Int) := by
  unfold S.place
  refine (x5 (k := j - k - 1) (by rw [List.length_drop]; omega) (fun i hi => ?_) ?_)
  ·rw [hd]; exact decide_eq_false (ha _ (by omega) (by omega))
  ·rw [hd, show k + 1 + (j - k - 1) = j by omega]; exact decide_eq_true he
 unfold next
 rw [e, hp, if_pos (by omega)]; omega
theorem J7 {l : List Int} {k : Nat} (ha : ∀ t : Nat, k < t → t < l.length → ¬ nth l (t : Int) = nth l (k : Int)) : next l (nth l (k : Int)) (k : Int) = (l.length : Int) := by
 have e : ((k : Int) + 1).toNat = k + 1 := by omega
 have hd : ∀ i : Nat, nth (l.drop (k + 1)) (i : Int) = nth l ((k + 1 + i : Nat) : Int) := fun i => by
  exact uK l (k + 1) i
 have hp : S.place (l.drop (k + 1)) (nth l (k : Int)) = -1 := by
  unfold S.place
  refine xP (fun i hi => ?_)
  rw [List.length_drop] at hi
  rw [hd]; exact decide_eq_false (ha _ (by omega) (by omega))
 unfold next
 rw [e, hp, if_neg (by omega)]
def rp (l : List Int) : Nat → List (Int × Int)
 | 0 => []
 | k + 1 => rp l k ++ if next l (nth l (k : Int)) (k : Int) < (l.length : Int) then [((k : Int), next l (nth l (k : Int)) (k : Int))] else []
theorem rp_hit {l : List Int} {k j : Nat} (h1 : k < j) (h2 : j < l.length) (ha : ∀ t : Nat, k < t → t < j → ¬ nth l (t : Int) = nth l (k : Int)) (he : nth l (j : Int) = nth l (k : Int)) : rp l k ++ [((k : Int), (j : Int))] = rp l (k + 1) := by
 show _ = rp l k ++ (if _ then _ else _)
 rw [zAo h1 h2 ha he, if_pos (by omega)]
theorem rp_miss {l : List Int} {k : Nat} (ha : ∀ t : Nat, k < t → t < l.length → ¬ nth l (t : Int) = nth l (k : Int)) : rp l k = rp l (k + 1) := by
 show _ = rp l k ++ (if _ then _ else _)
 rw [J7 ha, if_neg (by omega), List.append_nil]
theorem rp_len {l : List Int} : ∀ k, (rp l k).length ≤ k
 | 0 => Nat.le_refl _
 | k + 1 => by
  have := rp_len (l := l) k
  show (rp l k ++ (if _ then _ else _)).length ≤ _
  split
  ·rw [List.length_append]; simp only [List.length_cons, List.length_nil]; omega
  ·rw [List.append_nil]; omega
end Sf
end Go.Fip
namespace Go.Fip
open Go.Proofs Go.RowKit
theorem T.el179_encP : El Tryz.prog 179 181 2 encP := VC (z := (.agg #[(.int .i64 0), (.int .i64 0)])) (bytes := 16) (by kernel_rfl) (by kernel_rfl) rfl rfl rfl (fun _ => rfl) (by simp [encP, Value.oneCell'])
theorem zFk {v : Value} {l : List Int} {room : Int} {w : World} (h0 : Rd encI 1 v l w) (hn : l.length ≤ 16)  :
  Fn Tryz.prog 126 [(.agg #[(.int .i64 room), v])].toArray w (fun u w => Own 181 2 encP u (Sf.rp l l.length) w) := by
 refine fz Tryz.func126 Z kz Z Z (fun hH => (zr (yY Z Z Z hH (fun b1 w2 hH3 => (oA hH3 Z (zs (oA hH3 Z (zt (seq (zr (oA hH3 Z (zt (block ?_)))))))))))))
 have hH4 := v8 (enc := encP) 181 2 hH3
 refine loop (S := Nat × Value × Nat × Nat) (fun (k, v_3, lo_3, hi_3) => [(4, (.int .i64 (k : Int))), (3, v_3), (1, (.pointer (some ⟨b1, 0, none⟩))), (2, (.slice none 0 0))]) (fun (k, v_3, lo_3, hi_3) w1 => Heap [ow lo_3 hi_3 181 2 encP v_3 (Sf.rp l k), bx b1 51 [(.int .i64 room), v], base w] w1 ∧ k ≤ l.length) (fun (k, v_3, lo_3, hi_3) => l.length - k) (0, (.slice none 0 0), w2.heap.size, w2.heap.size) (uC Z (uC Z (uC Z (uC Z (Sub.nil _))))) ?_ ?_
 ·exact ⟨(Heap.y1 (n := 0) hH4 Z (Z)), om⟩
 rintro ⟨k, v_3, lo_3, hi_3⟩ w5 ⟨hH6, hk⟩
 have hrl := Sf.rp_len (l := l) k
 refine seq (zr (oM hH6 Z (oY hH6 (zI T.vJ Z) (oY hH6 (zE T.xB Z (cw (n := 1) Z Z)) (oY hH6 (z8 T.yS Z (h0.now hH6 (n := 2) Z).is) (oY hH6 (yL Z Z) (zt ?_)))))))
 by_cases hc7 : (k : Int) < (l.length : Int)
 ·refine zO Z (dT hc7) (skip (zN (seq (block (zr (oM hH6 Z (oY hH6 (zV Z Z om) (oA hH6 Z (zt (block (loop (S := Nat × Value × Nat × Nat) (fun (j, v_3, lo_3, hi_3) => [(5, (.int .i64 (j : Int))), (3, v_3), (1, (.pointer (some ⟨b1, 0, none⟩))), (2, (.slice none 0 0)), (4, (.int .i64 (k : Int)))]) (fun (j, v_3, lo_3, hi_3) w1 => Heap [ow lo_3 hi_3 181 2 encP v_3 (Sf.rp l k), bx b1 51 [(.int .i64 room), v], base w] w1 ∧ k < j ∧ j ≤ l.length ∧ ∀ t : Nat, k < t → t < j → ¬ nth l (t : Int) = nth l (k : Int)) (fun (j, v_3, lo_3, hi_3) => l.length - j) ((k + 1), v_3, lo_3, hi_3) (uC Z (uC Z (uC Z (uC Z (uC Z (Sub.nil _)))))) ?_ ?_)))))))))))
  ·exact ⟨(Heap.y1 (n := 0) hH6 Z (Z)), om, om, (fun t h1 h2 => by omega)⟩
  rintro ⟨j, v_3, lo_3, hi_3⟩ w8 ⟨hH9, hkj, hj, hall⟩
  refine seq (zr (oM hH9 Z (oY hH9 (zI T.vJ Z) (oY hH9 (zE T.xB Z (cw (n := 1) Z Z)) (oY hH9 (z8 T.yS Z (h0.now hH9 (n := 2) Z).is) (oY hH9 (yL Z Z) (zt ?_)))))))
  by_cases hc10 : (j : Int) < (l.length : Int)
  ·refine zO Z (dT hc10) (skip (zN (seq (block (seq (zY (fun w' => Heap [ow lo_3 hi_3 181 2 encP v_3 (Sf.rp l k), bx b1 51 [(.int .i64 room), v], base w] w') T.mixed (fun w11 hr12 => ?_)))))))
   have hH13 := hH9.redrawn hr12
   refine zK [0, 1, 2, 3, 4, 5, 6, 7, 8, 9, 10] kz hH13 _ _ _ kz (zJ Z Z (zI T.vJ Z) (zJ Z Z (zE T.xB Z (cw (n := 1) Z Z)) (qM Z Z Z (zJ Z Z (zP T.yS Z Z (h0.now hH13 (n := 2) Z).is om) (zJ Z Z (zE T.yU Z (fun _ hw => Rd.at (h0.now hw (n := 2) Z) (i := (j : Int)) om (j := 0) Z)) (zJ Z Z (zI T.vJ Z) (zJ Z Z (zE T.xB Z (cw (n := 1) Z Z)) (qM Z Z Z (zJ Z Z (zP T.yS Z Z (h0.now hH13 (n := 2) Z).is om) (zJ Z Z (zE T.yU Z (fun _ hw => Rd.at (h0.now hw (n := 2) Z) (i := (k : Int)) om (j := 0) Z)) (zJ Z Z (y5 Z Z) (zQ (zX kz (zN ?_))))))))))))))
   by_cases hc14 : (nth l (j : Int)) = (nth l (k : Int))
   ·have he : nth l (j : Int) = nth l (k : Int) := by have hq := (decide_eq_true hc14); simpa using hq
    refine zO Z (dT hc14) (zr (oM hH13 Z (oM hH13 Z (oM hH13 Z (oY hH13 (yR (v := (.agg #[(.int .i64 (k : Int)), (.int .i64 (j : Int))])) Z (fun w => by kernel_rfl)) (z2 T.el179_encP [((k : Int), (j : Int))] Z (fun w => by kernel_rfl) hH13 (fun u15 lo17 hi18 w16 hH19 => (yB (n := 1) T.el179_encP Z Z Z hH19 Z (Heap.yI T.el179_encP hH19 (n := 0) Z) om2 (fun u20 lo22 hi23 w21 hH24 => (oA hH24 Z (zt (exit (YN Z (yZ (xF (z7 (yC (zN (region (oM hH24 Z (oY hH24 (zV Z Z om) ?_)))))))))))))))))))))
    refine oA hH24 Z (zC (y0 (k + 1, u20, lo22, hi23) (uC Z (uC Z (uC Z (uC Z (Sub.nil _))))) (⟨(Heap.y1 (n := 0) (hH24.sub (sC sR)) Z (by first | (rw [Sf.rp_hit om om hall he]; done) | (rw [Sf.rp_miss (fun t h1 h2 => hall t h1 om)]; done))), om⟩) om3))
   have hne : ¬ nth l (j : Int) = nth l (k : Int) := by have hq := (decide_eq_false hc14); simpa using hq
   refine zL Z (dF hc14) (skip (yC (zN (region (oM hH13 Z (oY hH13 (zV Z Z om) (oA hH13 Z (zC (y0 (j + 1, v_3, lo_3, hi_3) (uC Z (uC Z (uC Z (uC Z (uC Z (Sub.nil _)))))) (⟨(Heap.y1 (n := 0) hH13 Z (Z)), om, om, (fun t h1 h2 => by rcases Nat.lt_or_ge t j with h | h; exact hall t h1 h; rw [show t = j by omega]; exact hne)⟩) om3)))))))))
  refine zL Z (dF hc10) (exit (yZ (xF (z7 (yC (zN (region (oM hH9 Z (oY hH9 (zV Z Z om) (oA hH9 Z (zC (y0 (k + 1, v_3, lo_3, hi_3) (uC Z (uC Z (uC Z (uC Z (Sub.nil _))))) (⟨(Heap.y1 (n := 0) hH9 Z (by first | (rw [Sf.rp_hit om om hall he]; done) | (rw [Sf.rp_miss (fun t h1 h2 => hall t h1 om)]; done))), om⟩) om3))))))))))))
 refine zL Z (dF hc7) (exit (yZ (xF (z7 (zu (oM hH6 Z (oA hH6 Z (zt (ret (fin ((hH6.sub (sK (sC sR))).front (n := 1) Z) (fun w' hf => (yN Z (rt Z))) (fun w' hf => ?_)))))))))))
 have hke : k = l.length := by omega
 rw [← hke]; exact Heap.own hf (n := 0) rfl
end Go.Fip
namespace Go.Fip
namespace Sf
theorem JC {ts : List Int} {p : Int × Int} : hit ts p = true ↔ ∃ x ∈ ts, p.1 < x ∧ x < p.2 := by
 unfold hit
 rw [YQ]
 constructor
 ·rintro ⟨i, hi, h⟩
  exact ⟨_, by rw [yG hi]; exact List.getElem_mem hi, of_decide_eq_true h⟩
 ·rintro ⟨x, hx, h⟩
  obtain ⟨i, hi, rfl⟩ := List.getElem_of_mem hx
  exact ⟨i, hi, by rw [yG hi]; exact decide_eq_true h⟩
theorem hit_succ {ts : List Int} {p : Int × Int} {j : Nat} (h : j < ts.length) : hit (ts.take (j + 1)) p = (hit (ts.take j) p || decide (p.1 < nth ts (j : Int) ∧ nth ts (j : Int) < p.2)) := by
 rw [Bool.eq_iff_iff, Bool.or_eq_true, JC, JC, ← qJ h, decide_eq_true_eq]
 simp only [List.mem_append, List.mem_singleton]
 constructor
 ·rintro ⟨x, hx | rfl, h2⟩
  ·exact .inl ⟨x, hx, h2⟩
  ·exact .inr h2
 ·rintro (⟨x, hx, h2⟩ | h2)
  ·exact ⟨x, .inl hx, h2⟩
  ·exact ⟨_, .inr rfl, h2⟩
theorem low_cases {ts : List Int} (k : Nat) : k = 0 ∧ low ts k = 0 ∨ 0 < k ∧ low ts k = nth ts ((k : Int) - 1) + 1 := by
 cases k with
 | zero => exact .inl ⟨rfl, rfl⟩
 | succ k => exact .inr ⟨Nat.succ_pos k, by rw [show ((k + 1 : Nat) : Int) - 1 = (k : Int) by omega]; rfl⟩
def rv (room : Int) (l ts : List Int) : Int := (l.length : Int) - (ts.length : Int) * (room - 1) - (((rp l l.length).filter fun p => !hit ts p).length : Int)
def rt (room : Int) (l ts : List Int) : Int × Int := if ¬ ck room l = 0 then (0, ck room l) else if ¬ tOk l.length ts then (0, 3) else (rv room l ts, 0)
theorem rt_1 {room : Int} {l ts : List Int} (h : ¬ ck room l = 0) : rt room l ts = (0, ck room l) := if_pos h
theorem rt_2 {room : Int} {l ts : List Int} (h : ck room l = 0) {k : Nat} (hk : k < ts.length) (h2 : ¬ inT l.length ts k) : rt room l ts = (0, 3) := by unfold rt; rw [if_neg (fun hh => hh h), if_pos (fun ht => h2 (ht k hk))]
theorem rt_3 {room : Int} {l ts : List Int} (h : ck room l = 0) (h2 : tOk l.length ts) : rt room l ts = (rv room l ts, 0) := by unfold rt; rw [if_neg (fun hh => hh h), if_neg (fun hh => hh h2)]
end Sf
end Go.Fip
namespace Go.Fip
open Go.Proofs Go.RowKit
theorem c59 {v : Value} {l : List Int} {room : Int} {w : World} (h0 : Rd encI 1 v l w) (hn : l.length ≤ 1000000) {vt : Value} {ts : List Int} (ht : Rd encI 1 vt ts w) (htn : ts.length ≤ 1000000)  :
  Fn Tryz.prog 59 [(.agg #[(.int .i64 room), v]), vt].toArray w (fun u _ => u = .tuple #[.int .i64 (Sf.rt room l ts).1, .int .i64 (Sf.rt room l ts).2]) := by
 refine fz Tryz.func59 Z kz Z Z (fun hH => (zr (yY Z Z Z hH (fun b1 w2 hH3 => (oA hH3 Z (oA hH3 Z (zt (seq (zr (oY hH3 (zW (cs := [(.int .i64 room), v]) T.x3 Z Z (fun _ hw => Heap.yH hw (n := 0) Z (k := 0) Z)) (zM Z Z Z hH3 (zC9 (h0.now hH3 (n := 1) Z) om) (fun w4 hH5 => (oY hH5 (yF Z Z) (zt ?_))))))))))))))
 by_cases hc6 : (Sf.ck room l) = 0
 ·have hc0 : Sf.ck room l = 0 := by have hq := (zG hc6); simpa using hq
  have hday := Sf.ck_iff.1 hc0
  have hd1 := hday.r1
  have hd2 := hday.r2
  have hd3 := hday.n
  refine zL Z (zG hc6) (skip (zN (seq (zr (oA hH5 Z (zt (block (loop (S := Nat) (fun k => [(6, (.int .i64 (k : Int))), (1, vt), (2, (.pointer (some ⟨b1, 0, none⟩)))]) (fun k w1 => Heap [bx b1 51 [(.int .i64 room), v], base w] w1 ∧ k ≤ ts.length ∧ ∀ j, j < k → Sf.inT l.length ts j) (fun k => ts.length - k) (0) (uC Z (uC Z (uC Z (Sub.nil _)))) ?_ ?_))))))))
  ·exact ⟨hH5, om, (fun j h => absurd h (Nat.not_lt_zero _))⟩
  rintro k w7 ⟨hH8, hk, hall⟩
  obtain ⟨hlo1, hlo2⟩ := Sf.low_le hk hall
  have hlc := Sf.low_cases (ts := ts) k
  refine seq (zr (oM hH8 Z (oM hH8 Z (oY hH8 (z8 T.yS Z (ht.now hH8 (n := 1) Z).is) (oY hH8 (yL Z Z) (zt ?_))))))
  by_cases hc9 : (k : Int) < (ts.length : Int)
  ·refine zO Z (dT hc9) (skip (zN (seq (block (seq (zY (fun w' => Heap [bx b1 51 [(.int .i64 room), v], base w] w') T.mixed (fun w10 hr11 => ?_)))))))
   have hH12 := hH8.redrawn hr11
   refine zK [0, 1, 2, 3, 4, 5] kz hH12 _ _ _ kz (qM Z Z Z (qM Z Z Z (zJ Z Z (zP T.yS Z Z (ht.now hH12 (n := 1) Z).is om) (zJ Z Z (zE T.yU Z (fun _ hw => Rd.at (ht.now hw (n := 1) Z) (i := (k : Int)) om (j := 0) Z)) (zJ Z Z (yL Z Z) (qM Z Z Z (zQ ?_)))))))
   by_cases hc13 : (nth ts (k : Int)) < 0
   ·refine zK [6, 7, 8, 9, 10, 11, 12, 13, 14, 15, 16, 17, 18, 19, 20, 21, 22, 23, 24, 25, 26, 27, 28, 29, 30] kz hH12 _ _ _ kz (yO Z Z Z (dT hc13) Z (yO Z Z Z (dT hc13) Z (yO Z Z Z (dT hc13) Z (yO Z Z Z (dT hc13) Z (yO Z Z Z (dT hc13) Z (yO Z Z Z (dT hc13) Z (yO Z Z Z (dT hc13) Z (yO Z Z Z (dT hc13) Z (zJ Z Z (zU Z (dT hc13) Z) (qM Z Z Z (yO Z Z Z Z Z (yO Z Z Z Z Z (yO Z Z Z Z Z (xC Z Z Z Z (xC Z Z Z Z (xC Z Z Z Z (xC Z Z Z Z (xC Z Z Z Z (xC Z Z Z Z (xC Z Z Z Z (xC Z Z Z Z ?_)))))))))))))))))))))
    refine xC Z Z Z Z (xC Z Z Z Z (yO Z Z Z Z Z (zJ Z Z (zU Z Z Z) (zQ (zX kz (zN (zO Z Z (seq ?_))))))))
    have hbt : ¬ Sf.inT l.length ts k := by show ¬ (Sf.low ts k ≤ nth ts (k : Int) ∧ nth ts (k : Int) ≤ (l.length : Int) - 1); omega
    refine region (oA hH12 Z (oA hH12 Z (zt (ret (yE (z6 (xY (yE (z6 (fin (hH12.sub (sC sR)) (fun w' hf => (xI Z (rt Z) (rt Z))) (fun w' hf => ?_)))))))))))
    first | (rw [Sf.rt_1 hcn] <;> rfl) | (rw [Sf.rt_2 hc0 (k := k) (by omega) hbt] <;> rfl) | (have hqe : q = (Sf.rp l l.length).length := (by omega); rw [Sf.rt_3 hc0 htk, hqe, List.take_length] <;> rfl)
   refine zK [6, 7, 8, 9, 10, 11, 12, 13, 14, 15] kz hH12 _ _ _ kz (zZ Z Z Z (dF hc13) Z (yX Z) (zZ Z Z Z (dF hc13) Z (yX Z) (zZ Z Z Z (dF hc13) Z (zP T.yS Z Z (ht.now hH12 (n := 1) Z).is om) (zZ Z Z Z (dF hc13) Z (zE T.yU Z (fun _ hw => Rd.at (ht.now hw (n := 1) Z) (i := (k : Int)) om (j := 0) Z)) (zZ Z Z Z (dF hc13) Z (zI T.vJ Z) (zZ Z Z Z (dF hc13) Z (zE T.xB Z (cw (n := 0) Z Z)) (zZ Z Z Z (dF hc13) Z (z8 T.yS Z (h0.now hH12 (n := 1) Z).is) (zZ Z Z Z (dF hc13) Z (vH Z Z) (zJ Z Z (zT Z (dF hc13) Z) (qM Z Z Z (zQ ?_)))))))))))
   by_cases hc15 : (l.length : Int) ≤ (nth ts (k : Int))
   ·refine zK [16, 17, 18, 19, 20, 21, 22, 23, 24, 25, 26, 27, 28, 29, 30] kz hH12 _ _ _ kz (yO Z Z Z (dT hc15) Z (yO Z Z Z (dT hc15) Z (yO Z Z Z (dT hc15) Z (xC Z Z Z Z (xC Z Z Z Z (xC Z Z Z Z (xC Z Z Z Z (xC Z Z Z Z (xC Z Z Z Z (xC Z Z Z Z (xC Z Z Z Z (xC Z Z Z Z (xC Z Z Z Z (yO Z Z Z (dT hc15) Z (zJ Z Z (zU Z (dT hc15) Z) (zQ (zX kz (zN (zO Z Z (seq ?_))))))))))))))))))))
    have hbt : ¬ Sf.inT l.length ts k := by show ¬ (Sf.low ts k ≤ nth ts (k : Int) ∧ nth ts (k : Int) ≤ (l.length : Int) - 1); omega
    refine region (oA hH12 Z (oA hH12 Z (zt (ret (yE (z6 (xY (yE (z6 (fin (hH12.sub (sC sR)) (fun w' hf => (xI Z (rt Z) (rt Z))) (fun w' hf => ?_)))))))))))
    first | (rw [Sf.rt_1 hcn] <;> rfl) | (rw [Sf.rt_2 hc0 (k := k) (by omega) hbt] <;> rfl) | (have hqe : q = (Sf.rp l l.length).length := (by omega); rw [Sf.rt_3 hc0 htk, hqe, List.take_length] <;> rfl)
   refine zK [16, 17, 18] kz hH12 _ _ _ kz (zZ Z Z Z (dF hc15) Z (yX Z) (zZ Z Z Z (dF hc15) Z (xJ Z Z) (zZ Z Z Z (dF hc15) Z (yX Z) (zQ ?_))))
   by_cases hc17 : 0 < (k : Int)
   ·refine zK [19, 20, 21, 22, 23, 24, 25, 26, 27, 28, 29, 30] kz hH12 _ _ _ kz (zZ Z Z Z (dT hc17) Z (yX Z) (zZ Z Z Z (dT hc17) Z (yX Z) (zZ Z Z Z (dT hc17) Z (zP T.yS Z Z (ht.now hH12 (n := 1) Z).is om) (zZ Z Z Z (dT hc17) Z (zE T.yU Z (fun _ hw => Rd.at (ht.now hw (n := 1) Z) (i := (k : Int)) om (j := 0) Z)) (zZ Z Z Z (dT hc17) Z (yX Z) (zZ Z Z Z (dT hc17) Z (yX Z) (zZ Z Z Z (dT hc17) Z (y8 Z Z om) (zZ Z Z Z (dT hc17) Z (zP T.yS Z Z (ht.now hH12 (n := 1) Z).is om) (zZ Z Z Z (dT hc17) Z (zE T.yU Z (fun _ hw => Rd.at (ht.now hw (n := 1) Z) (i := (k : Int) - 1) om (j := 0) Z)) (zZ Z Z Z (dT hc17) Z (uS Z Z) (zZ Z Z Z (dF hc15) Z (zU Z (dT hc17) Z) (zJ Z Z (zT Z (dF hc15) Z) (zQ (zX kz (zN ?_)))))))))))))))
    by_cases hc18 : (nth ts (k : Int)) ≤ (nth ts ((k : Int) - 1))
    ·refine zO Z (dT hc18) (seq ?_)
     have hbt : ¬ Sf.inT l.length ts k := by show ¬ (Sf.low ts k ≤ nth ts (k : Int) ∧ nth ts (k : Int) ≤ (l.length : Int) - 1); omega
     refine region (oA hH12 Z (oA hH12 Z (zt (ret (yE (z6 (xY (yE (z6 (fin (hH12.sub (sC sR)) (fun w' hf => (xI Z (rt Z) (rt Z))) (fun w' hf => ?_)))))))))))
     first | (rw [Sf.rt_1 hcn] <;> rfl) | (rw [Sf.rt_2 hc0 (k := k) (by omega) hbt] <;> rfl) | (have hqe : q = (Sf.rp l l.length).length := (by omega); rw [Sf.rt_3 hc0 htk, hqe, List.take_length] <;> rfl)
    refine zL Z (dF hc18) (skip (yC (zN ?_)))
    have hgd : Sf.inT l.length ts k := by show Sf.low ts k ≤ nth ts (k : Int) ∧ nth ts (k : Int) ≤ (l.length : Int) - 1; omega
    refine region (oM hH12 Z (oY hH12 (zV Z Z om) (oA hH12 Z (zC (y0 (k + 1) (uC Z (uC Z (uC Z (Sub.nil _)))) (⟨hH12, om, (fun j hj => by rcases Nat.lt_or_ge j k with h | h; exact hall j h; rw [show j = k by omega]; exact hgd)⟩) om3)))))
   refine zK [19, 20, 21, 22, 23, 24, 25, 26, 27, 28, 29, 30] kz hH12 _ _ _ kz (yO Z Z Z (dF hc17) Z (yO Z Z Z (dF hc17) Z (yO Z Z Z (dF hc17) Z (yO Z Z Z (dF hc17) Z (yO Z Z Z (dF hc17) Z (yO Z Z Z (dF hc17) Z (yO Z Z Z (dF hc17) Z (yO Z Z Z (dF hc17) Z (yO Z Z Z (dF hc17) Z (yO Z Z Z (dF hc17) Z (zZ Z Z Z (dF hc15) Z (zT Z (dF hc17) Z) (zJ Z Z (zT Z (dF hc15) Z) (zQ (zX kz (zN (zL Z Z (skip (yC (zN ?_)))))))))))))))))))
   have hgd : Sf.inT l.length ts k := by show Sf.low ts k ≤ nth ts (k : Int) ∧ nth ts (k : Int) ≤ (l.length : Int) - 1; omega
   refine region (oM hH12 Z (oY hH12 (zV Z Z om) (oA hH12 Z (zC (y0 (k + 1) (uC Z (uC Z (uC Z (Sub.nil _)))) (⟨hH12, om, (fun j hj => by rcases Nat.lt_or_ge j k with h | h; exact hall j h; rw [show j = k by omega]; exact hgd)⟩) om3)))))
  refine zL Z (dF hc9) (exit (yZ (xF (z7 (zN (seq ?_))))))
  have htk : Sf.tOk l.length ts := fun j hj => hall j (by omega)
  have htl := Sf.tOk_len htk
  have hmb : 0 ≤ (ts.length : Int) * (room - 1) := Int.mul_nonneg (by omega) (by omega)
  have hmb2 : (ts.length : Int) * (room - 1) ≤ 100 * 5 := Int.mul_le_mul (by omega) (by omega) (by omega) (by omega)
  have hrl := Sf.rp_len (l := l) l.length
  refine region (oY hH8 (zI T.vJ Z) (oY hH8 (zE T.xB Z (cw (n := 0) Z Z)) (oY hH8 (z8 T.yS Z (h0.now hH8 (n := 1) Z).is) (oM hH8 Z (oY hH8 (z8 T.yS Z (ht.now hH8 (n := 1) Z).is) (oY hH8 (zI T.YS Z) (oY hH8 (zE T.yU Z (cw (n := 0) Z Z)) (oY hH8 (y8 Z Z om) (oY hH8 (xA Z Z om) (oY hH8 (vN (show (l.length : Int) - ((ts.length : Int) * (room - 1)) = (((l.length : Int) - (ts.length : Int) * (room - 1) - ((((Sf.rp l l.length).take 0).filter fun p => !Sf.hit ts p).length : Int))) from (by rw [List.take_zero, List.filter_nil, List.length_nil]; exact (Int.sub_zero _).symm)) (y8 Z Z om)) (oA hH8 Z (zs (oY hH8 (zW (cs := [(.int .i64 room), v]) T.x3 Z Z (fun _ hw => Heap.yH hw (n := 0) Z (k := 0) Z)) (yV Z Z Z hH8 (zFk (h0.now hH8 (n := 1) Z) om) (fun u22 w20 lo23 hi24 hH21 hv25 => ?_)))))))))))))))
  have hH26 := Heap.xZ hH21 (n := 0) Z
  refine oA hH26 Z (zt (seq (zr (oA hH26 Z (zt (block (loop (S := Nat) (fun q => [(9, (.int .i64 (q : Int))), (7, (.int .i64 (((l.length : Int) - (ts.length : Int) * (room - 1) - ((((Sf.rp l l.length).take q).filter fun p => !Sf.hit ts p).length : Int))))), (1, vt), (8, u22)]) (fun q w1 => Heap [ow lo23 hi24 181 2 encP u22 (Sf.rp l l.length), bx b1 51 [(.int .i64 room), v], base w] w1 ∧ q ≤ (Sf.rp l l.length).length) (fun q => (Sf.rp l l.length).length - q) (0) (uC Z (uC Z (uC Z (uC Z (Sub.nil _))))) ?_ ?_)))))))
  ·exact ⟨hH26, om⟩
  rintro q w27 ⟨hH28, hq⟩
  have hcl := List.length_filter_le (fun p => !Sf.hit ts p) ((Sf.rp l l.length).take q)
  have hcl2 := List.length_take_le q (Sf.rp l l.length)
  refine seq (zr (oM hH28 Z (oM hH28 Z (oY hH28 (z8 T.zAn Z (Heap.yI T.el179_encP hH28 (n := 0) Z).is) (oY hH28 (yL Z Z) (zt ?_))))))
  by_cases hc29 : (q : Int) < ((Sf.rp l l.length).length : Int)
  ·refine zO Z (dT hc29) (skip (zN (seq (block (zr (oA hH28 Z (zt (seq (zr (oA hH28 Z (zt (block (loop (S := Nat) (fun j => [(11, (.int .i64 (j : Int))), (10, (.bool (Sf.hit (ts.take j) (nth (Sf.rp l l.length) (q : Int))))), (1, vt), (7, (.int .i64 (((l.length : Int) - (ts.length : Int) * (room - 1) - ((((Sf.rp l l.length).take q).filter fun p => !Sf.hit ts p).length : Int))))), (8, u22), (9, (.int .i64 (q : Int)))]) (fun j w1 => Heap [ow lo23 hi24 181 2 encP u22 (Sf.rp l l.length), bx b1 51 [(.int .i64 room), v], base w] w1 ∧ j ≤ ts.length) (fun j => ts.length - j) (0) (uC Z (uC Z (uC Z (uC Z (uC Z (uC Z (Sub.nil _))))))) ?_ ?_)))))))))))))
   ·exact ⟨hH28, om⟩
   rintro j w30 ⟨hH31, hj⟩
   refine seq (zr (oM hH31 Z (oM hH31 Z (oY hH31 (z8 T.yS Z (ht.now hH31 (n := 2) Z).is) (oY hH31 (yL Z Z) (zt ?_))))))
   by_cases hc32 : (j : Int) < (ts.length : Int)
   ·refine zO Z (dT hc32) (skip (zN (seq (block (zY (fun w' => Heap [ow lo23 hi24 181 2 encP u22 (Sf.rp l l.length), bx b1 51 [(.int .i64 room), v], base w] w') T.mixed (fun w33 hr34 => ?_))))))
    have hH35 := hH31.redrawn hr34
    refine zK [0, 1] kz hH35 _ _ _ kz (qM Z Z Z (qM Z Z Z (zQ ?_)))
    by_cases hc36 : Sf.hit (ts.take j) (nth (Sf.rp l l.length) (q : Int)) = true
    ·refine zK [2, 3, 4, 5, 6, 7, 8, 9, 10, 11, 12, 13, 14, 15, 16, 17, 18, 19, 20, 21, 22, 23, 24, 25] kz hH35 _ _ _ kz (yO Z Z Z hc36 Z (yO Z Z Z hc36 Z (yO Z Z Z hc36 Z (yO Z Z Z hc36 Z (yO Z Z Z hc36 Z (yO Z Z Z hc36 Z (yO Z Z Z hc36 Z (yO Z Z Z hc36 Z (yO Z Z Z hc36 Z (yO Z Z Z hc36 Z (yO Z Z Z hc36 Z (xC Z Z Z Z (xC Z Z Z Z (xC Z Z Z Z (xC Z Z Z Z (xC Z Z Z Z (xC Z Z Z Z (xC Z Z Z Z (xC Z Z Z Z (xC Z Z Z Z (xC Z Z Z Z ?_)))))))))))))))))))))
     refine yO Z Z Z hc36 Z (zJ Z Z (zU Z hc36 Z) (zJ Z Z (yK Z) (zQ (zX kz (yC (zN (region (oM hH35 Z (oY hH35 (zV Z Z om) (oA hH35 Z (zC (y0 (j + 1) (uC Z (Sub.cons (by refine congrArg (fun z : Bool => some (Value.bool z)) ?_; rw [Sf.hit_succ om]; first | (simp_all; done) | (simp_all; omega)) (uC Z (uC Z (uC Z (uC Z (Sub.nil _))))))) (⟨hH35, om⟩) om3))))))))))))
    refine zK [2, 3, 4, 5, 6, 7, 8, 9, 10, 11, 12] kz hH35 _ _ _ kz (zZ Z Z Z (Bool.eq_false_iff.2 hc36) Z (yX Z) (zZ Z Z Z (Bool.eq_false_iff.2 hc36) Z (yX Z) (zZ Z Z Z (Bool.eq_false_iff.2 hc36) Z (zP T.yS Z Z (ht.now hH35 (n := 2) Z).is om) (zZ Z Z Z (Bool.eq_false_iff.2 hc36) Z (zE T.yU Z (fun _ hw => Rd.at (ht.now hw (n := 2) Z) (i := (j : Int)) om (j := 0) Z)) (zZ Z Z Z (Bool.eq_false_iff.2 hc36) Z (yX Z) (zZ Z Z Z (Bool.eq_false_iff.2 hc36) Z (yX Z) (zZ Z Z Z (Bool.eq_false_iff.2 hc36) Z (zP T.zAn Z Z (Heap.yI T.el179_encP hH35 (n := 0) Z).is om) (zZ Z Z Z (Bool.eq_false_iff.2 hc36) Z (yA T.jV Z Z om) (zZ Z Z Z (Bool.eq_false_iff.2 hc36) Z (zE T.yU Z (fun _ hw => Rd.at (Heap.yI T.el179_encP hw (n := 0) Z) (i := (q : Int)) om (j := 0) Z)) (zZ Z Z Z (Bool.eq_false_iff.2 hc36) Z (xJ Z Z) (zZ Z Z Z (Bool.eq_false_iff.2 hc36) Z (yX Z) (zQ ?_))))))))))))
    by_cases hc37 : ((nth (Sf.rp l l.length) (q : Int)).1) < (nth ts (j : Int))
    ·refine zK [13, 14, 15, 16, 17, 18, 19, 20, 21, 22, 23, 24, 25] kz hH35 _ _ _ kz (zZ Z Z Z (dT hc37) Z (yX Z) (zZ Z Z Z (dT hc37) Z (yX Z) (zZ Z Z Z (dT hc37) Z (zP T.yS Z Z (ht.now hH35 (n := 2) Z).is om) (zZ Z Z Z (dT hc37) Z (zE T.yU Z (fun _ hw => Rd.at (ht.now hw (n := 2) Z) (i := (j : Int)) om (j := 0) Z)) (zZ Z Z Z (dT hc37) Z (yX Z) (zZ Z Z Z (dT hc37) Z (yX Z) (zZ Z Z Z (dT hc37) Z (zP T.zAn Z Z (Heap.yI T.el179_encP hH35 (n := 0) Z).is om) (zZ Z Z Z (dT hc37) Z (yA T.jV Z Z om) (zZ Z Z Z (dT hc37) Z (zE T.yU Z (fun _ hw => Rd.at (Heap.yI T.el179_encP hw (n := 0) Z) (i := (q : Int)) om (j := 1) Z)) (zZ Z Z Z (dT hc37) Z (yL Z Z) (zZ Z Z Z (Bool.eq_false_iff.2 hc36) Z (zU Z (dT hc37) Z) (zJ Z Z (zT Z (Bool.eq_false_iff.2 hc36) Z) (zJ Z Z (yK Z) (zQ (zX kz (yC (zN (region (oM hH35 Z (oY hH35 (zV Z Z om) (oA hH35 Z ?_)))))))))))))))))))))
     refine zC (y0 (j + 1) (uC Z (Sub.cons (by refine congrArg (fun z : Bool => some (Value.bool z)) ?_; rw [Sf.hit_succ om]; first | (simp_all; done) | (simp_all; omega)) (uC Z (uC Z (uC Z (uC Z (Sub.nil _))))))) (⟨hH35, om⟩) om3)
    refine zK [13, 14, 15, 16, 17, 18, 19, 20, 21, 22, 23, 24, 25] kz hH35 _ _ _ kz (yO Z Z Z (dF hc37) Z (yO Z Z Z (dF hc37) Z (yO Z Z Z (dF hc37) Z (yO Z Z Z (dF hc37) Z (yO Z Z Z (dF hc37) Z (yO Z Z Z (dF hc37) Z (yO Z Z Z (dF hc37) Z (yO Z Z Z (dF hc37) Z (yO Z Z Z (dF hc37) Z (yO Z Z Z (dF hc37) Z (zZ Z Z Z (Bool.eq_false_iff.2 hc36) Z (zT Z (dF hc37) Z) (zJ Z Z (zT Z (Bool.eq_false_iff.2 hc36) Z) (zJ Z Z (yK Z) (zQ (zX kz (yC (zN (region (oM hH35 Z (oY hH35 (zV Z Z om) (oA hH35 Z ?_)))))))))))))))))))))
    refine zC (y0 (j + 1) (uC Z (Sub.cons (by refine congrArg (fun z : Bool => some (Value.bool z)) ?_; rw [Sf.hit_succ om]; first | (simp_all; done) | (simp_all; omega)) (uC Z (uC Z (uC Z (uC Z (Sub.nil _))))))) (⟨hH35, om⟩) om3)
   refine zL Z (dF hc32) (exit (yZ (xF (z7 (zN (seq ?_))))))
   have hje : j = ts.length := by omega
   have htt : ts.take j = ts := by rw [hje, List.take_length]
   refine region (oM hH31 Z (oY hH31 (y6 Z) (zt ?_)))
   by_cases hc38 : (!(Sf.hit (ts.take j) (nth (Sf.rp l l.length) (q : Int)))) = true
   ·have hnh : Sf.hit ts (nth (Sf.rp l l.length) (q : Int)) = false := by have hq := hc38; rw [htt] at hq; simpa using hq
    refine zO Z hc38 (region (oM hH31 Z (oY hH31 (y8 Z Z om) (oA hH31 Z (zC (yC (zN (region (oM hH31 Z (oY hH31 (zV Z Z om) (oA hH31 Z (zC (y0 (q + 1) (uC Z (Sub.cons (by first | exact congrArg (fun z : Int => some (Value.int .i64 z)) (by rw [Sf.mis_t om hnh]; omega) | exact congrArg (fun z : Int => some (Value.int .i64 z)) (by rw [Sf.mis_f om hht])) (uC Z (uC Z (Sub.nil _))))) (⟨hH31, om⟩) om3)))))))))))))
   have hht : Sf.hit ts (nth (Sf.rp l l.length) (q : Int)) = true := by have hq := (Bool.eq_false_iff.2 hc38); rw [htt] at hq; simpa using hq
   refine zL Z (Bool.eq_false_iff.2 hc38) (skip (yC (zN (region (oM hH31 Z (oY hH31 (zV Z Z om) (oA hH31 Z (zC (y0 (q + 1) (uC Z (Sub.cons (by first | exact congrArg (fun z : Int => some (Value.int .i64 z)) (by rw [Sf.mis_t om hnh]; omega) | exact congrArg (fun z : Int => some (Value.int .i64 z)) (by rw [Sf.mis_f om hht])) (uC Z (uC Z (Sub.nil _))))) (⟨hH31, om⟩) om3)))))))))
  refine zL Z (dF hc29) (exit (yZ (xF (z7 (zu (oM hH28 Z (oA hH28 Z (oA hH28 Z (zt (ret (fin (hH28.sub (sC (sC sR))) (fun w' hf => (xI Z (rt Z) (rt Z))) (fun w' hf => ?_))))))))))))
  first | (rw [Sf.rt_1 hcn] <;> rfl) | (rw [Sf.rt_2 hc0 (k := k) (by omega) hbt] <;> rfl) | (have hqe : q = (Sf.rp l l.length).length := (by omega); rw [Sf.rt_3 hc0 htk, hqe, List.take_length] <;> rfl)
 have hcn : ¬ Sf.ck room l = 0 := by have hq := (zF hc6); simpa using hq
 refine zO Z (zF hc6) (zr (oY hH5 (zW (cs := [(.int .i64 room), v]) T.x3 Z Z (fun _ hw => Heap.yH hw (n := 0) Z (k := 0) Z)) (zM Z Z Z hH5 (zC9 (h0.now hH5 (n := 1) Z) om) (fun w40 hH41 => (oA hH41 Z (oA hH41 Z (zt (ret (z6 (fin (hH41.sub (sC sR)) (fun w' hf => (xI Z (rt Z) (rt Z))) (fun w' hf => ?_)))))))))))
 first | (rw [Sf.rt_1 hcn] <;> rfl) | (rw [Sf.rt_2 hc0 (k := k) (by omega) hbt] <;> rfl) | (have hqe : q = (Sf.rp l l.length).length := (by omega); rw [Sf.rt_3 hc0 htk, hqe, List.take_length] <;> rfl)
end Go.Fip
namespace Go.Fip
namespace Sf
def inG (old last : Int) (p : Int × Int) : Bool := decide (old - 1 ≤ p.1) && decide (p.2 ≤ last - 1) && (decide (0 < old) || decide (0 ≤ p.1))
def lostTo (ps : List (Int × Int)) (A : List Int) (last old i : Nat) : Int := nth A (old : Int) + (((ps.take i).filter (inG (old : Int) (last : Int))).length : Int)
def lostOf (room : Int) (n : Nat) (ps : List (Int × Int)) (A : List Int) (last old : Nat) : Int := lostTo ps A last old ps.length + if (last : Int) ≤ (n : Int) then room - 1 else 0
def tmI (room : Int) (n : Nat) (ps : List (Int × Int)) (last : Nat) (s : List Int × List Int) : Nat → List Int × List Int
 | 0 => s
 | old + 1 => if lostOf room n ps (tmI room n ps last s old).1 last old < nth (tmI room n ps last s old).1 (last : Int) then ((tmI room n ps last s old).1.set last (lostOf room n ps (tmI room n ps last s old).1 last old), (tmI room n ps last s old).2.set last (old : Int)) else tmI room n ps last s old
def tmO (room : Int) (n : Nat) (ps : List (Int × Int)) : Nat → List Int × List Int
 | 0 => (List.replicate (n + 2) 0, List.replicate (n + 2) 0)
 | k + 1 => tmI room n ps (k + 1) ((tmO room n ps k).1.set (k + 1) 1000, (tmO room n ps k).2) (k + 1)
structure TmOk (n : Nat) (s : List Int × List Int) : Prop where
 l1 : s.1.length = n + 2
 l2 : s.2.length = n + 2
 a : ∀ j : Nat, j < n + 2 → 0 ≤ nth s.1 (j : Int) ∧ nth s.1 (j : Int) ≤ 1000
 b : ∀ j : Nat, j < n + 2 → 0 ≤ nth s.2 (j : Int) ∧ (nth s.2 (j : Int) < j ∨ nth s.2 (j : Int) ≤ 0)
theorem Z7 {l : List Int} {i j : Nat} {x : Int} (hj : j < l.length) : nth (l.set i x) (j : Int) = if j = i then x else nth l (j : Int) := by
 rw [yG (by rw [List.length_set]; exact hj), List.getElem_set]
 by_cases h : i = j
 ·rw [if_pos h, if_pos h.symm]
 ·rw [if_neg h, if_neg (fun e => h e.symm), yG hj]
theorem Z9 {n j : Nat} {x : Int} (h : j < n) : nth (List.replicate n x) (j : Int) = x := by rw [yG (by simpa using h), List.getElem_replicate]
theorem TmOk.start (n : Nat) : TmOk n (List.replicate (n + 2) 0, List.replicate (n + 2) 0) := ⟨by simp, by simp, fun j hj => by rw [Z9 hj]; omega, fun j hj => by rw [Z9 hj]; omega⟩
theorem TmOk.set1 {n : Nat} {s : List Int × List Int} (h : TmOk n s) {i : Nat} {x : Int} (hx : 0 ≤ x ∧ x ≤ 1000) : TmOk n (s.1.set i x, s.2) :=
  ⟨by rw [List.length_set]; exact h.l1, h.l2, fun j hj => by
    show 0 ≤ nth (s.1.set i x) _ ∧ _
    rw [Z7 (by rw [h.l1]; exact hj)]
    split
    · exact hx
    · exact h.a j hj, h.b⟩
theorem TmOk.set2 {n : Nat} {s : List Int × List Int} (h : TmOk n s) {i old : Nat} (ho : old < i) : TmOk n (s.1, s.2.set i (old : Int)) :=
  ⟨h.l1, by rw [List.length_set]; exact h.l2, h.a, fun j hj => by
    show 0 ≤ nth (s.2.set i _) _ ∧ _
    rw [Z7 (by rw [h.l2]; exact hj)]
    split
    · omega
    · exact h.b j hj⟩
theorem zBw {n : Nat} {s : List Int × List Int} (h : TmOk n s) {room : Int} {ps : List (Int × Int)} {last old : Nat} (hr : 1 ≤ room) (ho : old < n + 2) : 0 ≤ lostOf room n ps s.1 last old := by
 have := h.a old ho
 unfold lostOf lostTo; split <;> omega
theorem K4 {room : Int} {n : Nat} {ps : List (Int × Int)} {last : Nat} {s : List Int × List Int} (h : TmOk n s) (hr : 1 ≤ room) (hl : last < n + 2) : ∀ old, old ≤ last → TmOk n (tmI room n ps last s old)
 | 0, _ => h
 | old + 1, ho => by
  have ih := K4 (ps := ps) h hr hl old (by omega)
  show TmOk n (if _ then _ else _)
  split
  ·rename_i hlt
   have h1 := zBw (ps := ps) (last := last) ih hr (show old < n + 2 by omega)
   have h2 := ih.a last hl
   exact (ih.set1 (i := last) ⟨h1, by omega⟩).set2 (by omega)
  ·exact ih
theorem tmO_ok {room : Int} {n : Nat} {ps : List (Int × Int)} (hr : 1 ≤ room) : ∀ k, k ≤ n + 1 → TmOk n (tmO room n ps k)
 | 0, _ => TmOk.start n
 | k + 1, hk => K4 ((tmO_ok hr k (by omega)).set1 (by omega)) hr (by omega) _ (Nat.le_refl _)
theorem zB4 {room : Int} {n : Nat} {ps : List (Int × Int)} {last : Nat} {s : List Int × List Int} {old : Nat} (h : lostOf room n ps (tmI room n ps last s old).1 last old < nth (tmI room n ps last s old).1 (last : Int)) :
  tmI room n ps last s (old + 1) = ((tmI room n ps last s old).1.set last (lostOf room n ps (tmI room n ps last s old).1 last old), (tmI room n ps last s old).2.set last (old : Int)) := if_pos h
theorem zC5 {room : Int} {n : Nat} {ps : List (Int × Int)} {last : Nat} {s : List Int × List Int} {old : Nat} (h : ¬ lostOf room n ps (tmI room n ps last s old).1 last old < nth (tmI room n ps last s old).1 (last : Int)) :
  tmI room n ps last s (old + 1) = tmI room n ps last s old := if_neg h
theorem lost_0 {ps : List (Int × Int)} {A : List Int} {last old : Nat} : nth A (old : Int) = lostTo ps A last old 0 := by unfold lostTo; simp
theorem lost_t {ps : List (Int × Int)} {A : List Int} {last old i : Nat} (hi : i < ps.length) (h : inG (old : Int) (last : Int) (nth ps (i : Int)) = true) : lostTo ps A last old i + 1 = lostTo ps A last old (i + 1) := by
 unfold lostTo
 rw [← qJ hi, List.filter_append]; simp [h]; omega
theorem lost_f {ps : List (Int × Int)} {A : List Int} {last old i : Nat} (hi : i < ps.length) (h : inG (old : Int) (last : Int) (nth ps (i : Int)) = false) : lostTo ps A last old i = lostTo ps A last old (i + 1) := by
 unfold lostTo
 rw [← qJ hi, List.filter_append]; simp [h]
theorem lost_le {ps : List (Int × Int)} {A : List Int} {last old i : Nat} (ha : 0 ≤ nth A (old : Int) ∧ nth A (old : Int) ≤ 1000) : 0 ≤ lostTo ps A last old i ∧ lostTo ps A last old i ≤ 1000 + ps.length := by
 have h1 := List.length_filter_le (inG (old : Int) (last : Int)) (ps.take i)
 have h2 := List.length_take_le' i ps
 unfold lostTo; omega
def back (B : List Int) : Nat → Int → List Int
 | 0, _ => []
 | f + 1, a => if 0 < a then (a - 1) :: back B f (nth B a) else []
theorem zCt {B : List Int} {f : Nat} {a : Int} (h : 0 < a) : back B (f + 1) a = (a - 1) :: back B f (nth B a) := if_pos h
theorem back_f {B : List Int} {f : Nat} {a : Int} (h : ¬ 0 < a) : back B f a = [] := by
 cases f with
 | zero => rfl
 | succ f => exact if_neg h
def tm (room : Int) (n : Nat) (ps : List (Int × Int)) : List Int := (back (tmO room n ps (n + 1)).2 (n + 2) (nth (tmO room n ps (n + 1)).2 ((n : Int) + 1))).reverse
theorem back_step {B : List Int} {f : Nat} {a : Int} {out T : List Int} (h0 : 0 < a) (hf : a.toNat ≤ f) (h : out ++ back B f a = T) : (out ++ [a - 1]) ++ back B (f - 1) (nth B a) = T := by
 obtain ⟨g, rfl⟩ : ∃ g, f = g + 1 := ⟨f - 1, by omega⟩
 rw [zCt h0] at h
 rw [List.append_assoc]
 exact h
theorem TmOk.next {n : Nat} {s : List Int × List Int} (h : TmOk n s) {a : Int} (h0 : 0 < a) (h1 : a < (n : Int) + 2) : 0 ≤ nth s.2 a ∧ nth s.2 a < a := by
 have := h.b a.toNat (by omega)
 rw [show ((a.toNat : Nat) : Int) = a by omega] at this
 omega
def tmS (room : Int) (n : Nat) (ps : List (Int × Int)) (q : Nat) : List Int × List Int := ((tmO room n ps q).1.set (q + 1) 1000, (tmO room n ps q).2)
def tmP (room : Int) (n : Nat) (ps : List (Int × Int)) (q old : Nat) : List Int × List Int := tmI room n ps (q + 1) (tmS room n ps q) old
theorem tmP_done {room : Int} {n : Nat} {ps : List (Int × Int)} {q : Nat} : tmP room n ps q (q + 1) = tmO room n ps (q + 1) := rfl
theorem tmP_ok {room : Int} {n : Nat} {ps : List (Int × Int)} {q old : Nat} (hr : 1 ≤ room) (hq : q ≤ n) (ho : old ≤ q + 1) : TmOk n (tmP room n ps q old) :=
 K4 ((tmO_ok hr q (by omega)).set1 (by omega)) hr (by omega) _ ho
theorem toNat1 (q : Nat) : ((q : Int) + 1).toNat = q + 1 := by omega
theorem tmP_t1 {room : Int} {n : Nat} {ps : List (Int × Int)} {q old : Nat} (h : lostOf room n ps (tmP room n ps q old).1 (q + 1) old < nth (tmP room n ps q old).1 ((q : Int) + 1)) :
  (tmP room n ps q old).1.set ((q : Int) + 1).toNat (lostOf room n ps (tmP room n ps q old).1 (q + 1) old) = (tmP room n ps q (old + 1)).1 := by
 unfold tmP at h ⊢
 rw [zB4 h, toNat1]
theorem tmP_t2 {room : Int} {n : Nat} {ps : List (Int × Int)} {q old : Nat} (h : lostOf room n ps (tmP room n ps q old).1 (q + 1) old < nth (tmP room n ps q old).1 ((q : Int) + 1)) :
  (tmP room n ps q old).2.set ((q : Int) + 1).toNat (old : Int) = (tmP room n ps q (old + 1)).2 := by
 unfold tmP at h ⊢
 rw [zB4 h, toNat1]
theorem tmP_f {room : Int} {n : Nat} {ps : List (Int × Int)} {q old : Nat} (h : ¬ lostOf room n ps (tmP room n ps q old).1 (q + 1) old < nth (tmP room n ps q old).1 ((q : Int) + 1)) : tmP room n ps q old = tmP room n ps q (old + 1) := by
 unfold tmP at h ⊢
 rw [zC5 h]
def sn (c : List Int) : Nat → List Int
 | 0 => List.replicate 9 0
 | k + 1 => (sn c k).set (nth c (k : Int)).toNat 1
theorem sn_len (c : List Int) : ∀ k, (sn c k).length = 9
 | 0 => rfl
 | k + 1 => by show ((sn c k).set _ _).length = 9; rw [List.length_set]; exact sn_len c k
theorem sn_01 (c : List Int) : ∀ k, ∀ j : Nat, j < 9 → 0 ≤ nth (sn c k) (j : Int) ∧ nth (sn c k) (j : Int) ≤ 1
 | 0, j, hj => by
  rw [show sn c 0 = List.replicate 9 0 from rfl, Z9 hj]; omega
 | k + 1, j, hj => by
  rw [show sn c (k + 1) = (sn c k).set (nth c (k : Int)).toNat 1 from rfl, Z7 (by rw [sn_len]; exact hj)]
  split
  ·omega
  ·exact sn_01 c k j hj
def cutL (l : List Int) (p : Int × Int) : List Int := (l.take p.2.toNat).drop p.1.toNat
def dpOf (l : List Int) (p : Int × Int) : Int := sumTo (sn (cutL l p) (cutL l p).length) 9
def dp (l : List Int) (ps : List (Int × Int)) (want : Int) : Int := match ps.find? (fun p => decide (p.2 = want)) with
 | some p => dpOf l p
 | none => 0
theorem dp_hit {l : List Int} {ps : List (Int × Int)} {want : Int} {i : Nat} (hi : i < ps.length) (h : (nth ps (i : Int)).2 = want) (hall : ∀ j, j < i → ¬ (nth ps (j : Int)).2 = want) : dpOf l (nth ps (i : Int)) = dp l ps want := by
 have : ps.find? (fun p => decide (p.2 = want)) = some (nth ps (i : Int)) := by
  rw [yG hi]
  refine List.find?_eq_some_iff_getElem.2 ⟨by rw [yG hi] at h; simpa using h, i, hi, rfl, fun j hj => ?_⟩
  have := hall j hj
  rw [yG (by omega)] at this
  simpa using this
 unfold dp; rw [this]
theorem dp_miss {l : List Int} {ps : List (Int × Int)} {want : Int} (hall : ∀ j, j < ps.length → ¬ (nth ps (j : Int)).2 = want) : 0 = dp l ps want := by
 have : ps.find? (fun p => decide (p.2 = want)) = none := by
  rw [List.find?_eq_none]
  intro p hp
  obtain ⟨j, hj, rfl⟩ := List.getElem_of_mem hp
  have := hall j hj
  rw [yG hj] at this
  simpa using this
 unfold dp; rw [this]
def dps (l : List Int) (ps : List (Int × Int)) : Nat → List Int
 | 0 => []
 | k + 1 => dps l ps k ++ [dp l ps (k : Int)]
theorem dps_len (l : List Int) (ps : List (Int × Int)) : ∀ k, (dps l ps k).length = k
 | 0 => rfl
 | k + 1 => by show (dps l ps k ++ _).length = _; rw [List.length_append, dps_len l ps k]; rfl
theorem JN {m : Mm} {i : Nat} : ∀ {j : Nat}, ∀ p ∈ ends m i j, 0 ≤ p.1 ∧ p.1 < (j : Int) ∧ p.2 = (i : Int)
 | 0, p, h => by cases h
 | j + 1, p, h => by
  rcases List.mem_append.1 h with h1 | h1
  ·have := JN p h1; omega
  ·split at h1
   ·rw [List.mem_singleton.1 h1]
    exact ⟨by show (0 : Int) ≤ (j : Int); omega, by show (j : Int) < ((j + 1 : Nat) : Int); omega, rfl⟩
   ·cases h1
theorem zBd {m : Mm} : ∀ {n : Nat}, ∀ p ∈ lst m n, 0 ≤ p.1 ∧ p.1 < p.2 ∧ p.2 < (n : Int)
 | 0, p, h => by cases h
 | n + 1, p, h => by
  rcases List.mem_append.1 h with h1 | h1
  ·have := zBd p h1; omega
  ·have := JN p h1; omega
theorem lst_nth {m : Mm} {n i : Nat} (hi : i < (lst m n).length) : 0 ≤ (nth (lst m n) (i : Int)).1 ∧ (nth (lst m n) (i : Int)).1 < (nth (lst m n) (i : Int)).2 ∧ (nth (lst m n) (i : Int)).2 < (n : Int) := zBd _ (by rw [yG hi]; exact List.getElem_mem hi)
end Sf
end Go.Fip
namespace Go.Fip
open Go.Proofs Go.RowKit
theorem zDt {v : Value} {w : World} (h0 : Rd encI 1 v ([] : List Int) w)  :
  Fn Tryz.prog 160 [v].toArray w (fun u _ => u = .tuple #[]) := by
 refine fz Tryz.func160 Z kz Z Z (fun hH => (zr (oM hH Z (oY hH (z8 T.yS Z (h0.now hH (n := 0) Z).is) (oY hH (y8 Z Z (by simp)) (oA hH Z (oA hH Z (zt (block (loop (S := Nat) (fun k => [(2, (.int .i64 0)), (3, (.int .i64 (-1))), (0, v)]) (fun k w1 => Heap [base w] w1) (fun k => k) (0) (uC Z (uC Z (uC Z (Sub.nil _)))) ?_ ?_))))))))))
 ·exact hH
 rintro k w1 hH2
 refine seq (zr (oM hH2 Z (oM hH2 Z (oY hH2 (yL Z Z) (zt (zL Z Z (exit (yZ (xF (z7 (zDi hH2 (fun w' hf => (kF Z )) (fun w' hf => Z))))))))))))
theorem zEt {bb mb : Nat} {room : Int} {v : Value} {C : List Int} {w : World} (kb : Bx bb 148 (seg [.int .i64 room, v] C [.map (some mb)]) w) (hC : C.length = 9) {l : List Int} (h0 : Rd encI 1 v l w) (hn : l.length ≤ 16) {m : Sf.Mm} (hm : Mp Sf.kvS Sf.vvI mb m w) (hr : 1 ≤ room ∧ room ≤ 6)  :
  Fn Tryz.prog 122 [(.pointer (some ⟨bb, 0, none⟩))].toArray w (fun u w => Rd encI 1 u (Sf.tm room l.length (Sf.lst m l.length)) w) := by
 refine fz Tryz.func122 Z kz Z Z (fun hH => ?_)
 have hll := Sf.lst_len (m := m) l.length hn
 have hlm : ((Sf.lst m l.length).map Sf.kvS).length = (Sf.lst m l.length).length := List.length_map ..
 refine zr (oA hH Z (zs (oM hH Z (oY hH (yQ Z) (oY hH (zI T.vZ Z) (oY hH (zI T.vJ Z) (oY hH (xW T.xB Z (by rfl) Z (fun _ hw => (kb.now hw (n := 0) Z))) (oY hH (z8 T.yS Z (h0.now hH (n := 0) Z).is) (oA hH Z (zt (cut (S := Value × Nat × Nat × Value × Nat × Nat) (fun (v_c4, lo_c4, hi_c4, v_c5, lo_c5, hi_c5) => [(4, v_c4), (5, v_c5), (0, (.pointer (some ⟨bb, 0, none⟩))), (2, (.slice none 0 0)), (3, (.int .i64 (l.length : Int)))]) (fun (v_c4, lo_c4, hi_c4, v_c5, lo_c5, hi_c5) w1 => Heap [ow lo_c4 hi_c4 3 1 encI v_c4 (List.replicate ((l.length : Int) + 2).toNat (0 : Int)), ow lo_c5 hi_c5 3 1 encI v_c5 (List.replicate ((l.length : Int) + 2).toNat (0 : Int)), base w] w1) ?_ ?_)))))))))))
 ·refine zY (fun w' => Heap [base w] w') T.mixed (fun w1 hr2 => ?_)
  have hH3 := hH.redrawn hr2
  refine zK [0, 1, 3, 4] kz hH3 _ _ _ kz (qM Z Z Z (zJ Z Z (zV Z Z om) (qM Z Z Z (zJ Z Z (zV Z Z om) (zQ (xH [2, 5] kz Z (⟨⟨_, Z, ?_⟩, ⟨_, Z, ?_⟩, trivial⟩)))))))
  ·refine jA T.zA (0 : Int) T.uU Z Z Z hH3 om om (fun u4 lo6 hi7 w5 hH8 => (zC (⟨(hH8.sub (sC sR)), (zK [6] kz (hH8.sub (sC sR)) _ _ _ kz (zJ Z Z (yK Z) (zQ (z1 5 kz Z (jA T.zA (0 : Int) T.uU Z Z Z hH8 om om (fun u9 lo11 hi12 w10 hH13 => (zC (⟨(hH13.sub (sC (sC sR))), (zK [7] kz (hH13.sub (sC (sC sR))) _ _ _ kz (zJ Z Z (yK Z) (zQ (zX kz ?_))))⟩))))))))⟩)))
   have hH14 := hH13.front (n := 1) Z
   refine kV (u4, lo6, hi7, u9, lo11, hi12) (uC Z (uC Z (uC Z (uC Z (uC Z (Sub.nil _)))))) ?_
   exact hH14
  refine jA T.zA (0 : Int) T.uU Z Z Z hH3 om om (fun u15 lo17 hi18 w16 hH19 => (zC (⟨(hH19.sub (sC sR)), (z1 2 kz Z (jA T.zA (0 : Int) T.uU Z Z Z hH19 om om (fun u20 lo22 hi23 w21 hH24 => (zC (⟨(hH24.sub (sC (sC sR))), (zK [6, 7] kz (hH24.sub (sC (sC sR))) _ _ _ kz (zJ Z Z (yK Z) (zJ Z Z (yK Z) (zQ (zX kz (kV (u20, lo22, hi23, u15, lo17, hi18) (uC Z (uC Z (uC Z (uC Z (uC Z (Sub.nil _)))))) ?_))))))⟩)))))⟩)))
  exact hH24
 rintro ⟨v_c4, lo_c4, hi_c4, v_c5, lo_c5, hi_c5⟩ w25 hH26
 refine seq (zr (yD (z := (.int .i64 0)) (fun _ => by kernel_rfl) Z Z hH26 (fun b27 w28 hH29 => (zS (n := 0) (j := 0) Z Z hH29 Z T.sz3 Z Z Z (by rfl) (fun w30 hH31 => (zt (block (loopD (S := Nat × Nat × List Nat × Value × Nat × Nat × Value × Nat × Nat) (fun (q, b6, Ds, v_4, lo_4, hi_4, v_5, lo_5, hi_5) => [(6, (.pointer (some ⟨b6, 0, none⟩))), (4, v_4), (5, v_5), (0, (.pointer (some ⟨bb, 0, none⟩))), (2, (.slice none 0 0)), (3, (.int .i64 (l.length : Int)))]) (fun (q, b6, Ds, v_4, lo_4, hi_4, v_5, lo_5, hi_5) => Ds.map isMark) (fun (q, b6, Ds, v_4, lo_4, hi_4, v_5, lo_5, hi_5) w1 => Heap ([bx b6 3 [(.int .i64 ((q : Int) + 1))], ow lo_4 hi_4 3 1 encI v_4 ((Sf.tmO room l.length (Sf.lst m l.length) q).1), ow lo_5 hi_5 3 1 encI v_5 ((Sf.tmO room l.length (Sf.lst m l.length) q).2), base w] ++ Ds.map markItem) w1 ∧ q ≤ l.length + 1) (fun (q, b6, Ds, v_4, lo_4, hi_4, v_5, lo_5, hi_5) => l.length + 1 - q) (0, b27, [], v_c4, lo_c4, hi_c4, v_c5, lo_c5, hi_c5) Z (uC Z (uC Z (uC Z (uC Z (uC Z (uC Z (Sub.nil _))))))) ?_ ?_))))))))
 ·exact ⟨(Heap.y9 (n := 0) (Heap.y1 (n := 2) (Heap.y1 (n := 1) hH31 Z (Z)) Z (Z)) Z (Z)), om⟩
 rintro ⟨q, b6, Ds, v_4, lo_4, hi_4, v_5, lo_5, hi_5⟩ w32 ⟨hH33, hq⟩
 have hok := Sf.tmO_ok (n := l.length) (ps := (Sf.lst m l.length)) hr.1 q hq
 have hk1 := hok.l1
 have hk2 := hok.l2
 refine seq (zr (oY hH33 (zE T.yU Z (cw (n := 0) Z Z)) (oM hH33 Z (oY hH33 (zV Z Z om) (oY hH33 (uS Z Z) (zt ?_))))))
 by_cases hc34 : ((q : Int) + 1) ≤ ((l.length : Int) + 1)
 ·refine zO Z (dT hc34) (skip (zN (seq (block (zr (oM hH33 Z (oY hH33 (zE T.yU Z (cw (n := 0) Z Z)) (oY hH33 (zP T.yS Z Z (Heap.yI T.zA hH33 (n := 1) Z).is om) (x4 (n := 1) (i := ((q : Int) + 1)) (k := 0) (us := [(.int .i64 1000)]) (z := 1000) T.zA Z Z hH33 Z om T.sz3 Z Z Z (Nat.le_of_ble_eq_true Z) (fun w35 hH36 => (zs (oY hH36 (zE T.yU Z (cw (n := 0) Z Z)) (oM hH36 Z (zt (block (loopD (S := Nat × List Nat × Value × Nat × Nat × Value × Nat × Nat) (fun (old, Ds, v_4, lo_4, hi_4, v_5, lo_5, hi_5) => [(34, (.int .i64 (old : Int))), (4, v_4), (5, v_5), (0, (.pointer (some ⟨bb, 0, none⟩))), (2, (.slice none 0 0)), (3, (.int .i64 (l.length : Int))), (6, (.pointer (some ⟨b6, 0, none⟩))), (33, (.int .i64 ((q : Int) + 1)))]) (fun (old, Ds, v_4, lo_4, hi_4, v_5, lo_5, hi_5) => Ds.map isMark) (fun (old, Ds, v_4, lo_4, hi_4, v_5, lo_5, hi_5) w1 => Heap ([bx b6 3 [(.int .i64 ((q : Int) + 1))], ow lo_4 hi_4 3 1 encI v_4 ((Sf.tmP room l.length (Sf.lst m l.length) q old).1), ow lo_5 hi_5 3 1 encI v_5 ((Sf.tmP room l.length (Sf.lst m l.length) q old).2), base w] ++ Ds.map markItem) w1 ∧ old ≤ q + 1) (fun (old, Ds, v_4, lo_4, hi_4, v_5, lo_5, hi_5) => q + 1 - old) (0, Ds, v_4, lo_4, hi_4, v_5, lo_5, hi_5) Z (uC Z (uC Z (uC Z (uC Z (uC Z (uC Z (uC Z (uC Z (Sub.nil _))))))))) ?_ ?_))))))))))))))))
  ·exact ⟨(Heap.y1 (n := 2) (Heap.y1 (n := 1) hH36 Z (by rw [Sf.toNat1]; rfl)) Z (Z)), om⟩
  rintro ⟨old, Ds, v_4, lo_4, hi_4, v_5, lo_5, hi_5⟩ w37 ⟨hH38, ho⟩
  have hok2 := Sf.tmP_ok (n := l.length) (ps := (Sf.lst m l.length)) hr.1 (show q ≤ l.length by omega) ho
  have hk3 := hok2.l1
  have hk4 := hok2.l2
  refine zr (oY hH38 (yL Z Z) (zt (seq ?_)))
  by_cases hc39 : (old : Int) < ((q : Int) + 1)
  ·refine zO Z (dT hc39) (skip (zN (seq (block (zr (oM hH38 Z (yD (z := (.int .i64 0)) (fun _ => by kernel_rfl) Z Z hH38 (fun b40 w41 hH42 => (zS (n := 0) (j := 0) Z Z hH42 Z T.sz3 Z Z Z (by rfl) (fun w43 hH44 => (zt (seq ?_))))))))))))
   have hok3 := hok2.a old (by omega)
   refine region (oM hH44 Z (oY hH44 (zE T.yU Z (cw (n := 0) Z Z)) (oY hH44 (zP T.yS Z Z (Heap.yI T.zA hH44 (n := 2) Z).is om) (oY hH44 (vN (show nth ((Sf.tmP room l.length (Sf.lst m l.length) q old).1) (old : Int) = (Sf.lostTo (Sf.lst m l.length) (Sf.tmP room l.length (Sf.lst m l.length) q old).1 (q + 1) old 0) from Sf.lost_0) (zE T.yU Z (fun _ hw => Rd.at (Heap.yI T.zA hw (n := 2) Z) (i := (old : Int)) om (j := 0) Z))) (yD (z := (.int .i64 0)) (fun _ => by kernel_rfl) Z Z hH44 (fun b45 w46 hH47 => (zS (n := 0) (j := 0) Z Z hH47 Z T.sz3 Z Z Z (by rfl) (fun w48 hH49 => (zt (seq (zr (oM hH49 Z (yV Z Z Z hH49 (zCp) (fun u53 w51 lo54 hi55 hH52 hv56 => ?_))))))))))))))
   obtain ⟨c50, hu, -⟩ := hv56
   subst hu
   have hH57 := Heap.zCq hH52 (n := 0) Z
   refine zt (block (rangeFunc (xs := ((Sf.lst m l.length).map Sf.kvS)) Z (zAt (bb := bb) (mb := mb) (room := room) (v := v) (C := C) (l := l) (m := m) hC hn) Z hH57 (fun i H => H = [⟨lo54, hi55, Bx c50 76 [.pointer (some ⟨bb, 0, none⟩)]⟩, bx b45 3 [(.int .i64 (Sf.lostTo (Sf.lst m l.length) (Sf.tmP room l.length (Sf.lst m l.length) q old).1 (q + 1) old i))], bx b40 3 [(.int .i64 (old : Int))], bx b6 3 [(.int .i64 ((q : Int) + 1))], ow lo_4 hi_4 3 1 encI v_4 ((Sf.tmP room l.length (Sf.lst m l.length) q old).1), ow lo_5 hi_5 3 1 encI v_5 ((Sf.tmP room l.length (Sf.lst m l.length) q old).2), base w] ++ Ds.map markItem ∧ True) (fun c H => False) ⟨Z, trivial⟩ (fun i H w hI hw => ?_) (fun l58 D59 i60 x61 H w63 rc hx62 hI hH64 => ?_) (fun D59 H w63 hI hH64 => ?_) (fun D59 c H w63 hI hH64 => ?_)))
   ·obtain ⟨rfl, _⟩ := hI
    exact (show BW c50 bb mb room v C m l _ from ⟨hw.get (n := 0) Z, kb.now hw (n := 6) Z, hm.now hw (n := 6) Z, h0.now hw (n := 6) Z⟩)
   ·obtain ⟨rfl, _⟩ := hI
    obtain ⟨hlt, hxe⟩ := j6 hx62
    subst hxe
    have hpn := Sf.lst_nth hlt
    have hle := Sf.lost_le (ps := (Sf.lst m l.length)) (A := (Sf.tmP room l.length (Sf.lst m l.length) q old).1) (last := q + 1) (old := old) (i := i60) hok3
    refine region (yD (z := (.agg #[(.int .i64 0), (.int .i64 0)])) (fun _ => by kernel_rfl) Z Z hH64 (fun b67 w68 hH69 => (zS (n := 0) (j := 0) Z Z hH69 Z T.GN Z Z Z (by rfl) (fun w70 hH71 => (zC (⟨_, (hH71.front (n := 1) Z), fun w72 hH73 => (block (zr (oY hH73 (zI T.X2 Z) (oY hH73 (zE T.yU Z (cw (n := 1) Z Z)) (oY hH73 (zE T.yU Z (cw (n := 5) Z Z)) (oY hH73 (y8 Z Z om) (oY hH73 (vH Z Z) (oM hH73 Z ?_))))))))⟩))))))
    by_cases hc75 : ((old : Int) - 1) ≤ ((nth (Sf.lst m l.length) (i60 : Int)).1)
    ·refine zB Z Z (dT hc75) (oY hH73 (zI T.ZH Z) (zB Z Z (dT hc75) (oY hH73 (zE T.yU Z (cw (n := 1) Z Z)) (zB Z Z (dT hc75) (oY hH73 (zE T.yU Z (cw (n := 6) Z Z)) (zB Z Z (dT hc75) (oY hH73 (y8 Z Z om) (zB Z Z (dT hc75) (oY hH73 (uS Z Z) (oY hH73 (zU Z (dT hc75) Z) (oM hH73 Z ?_)))))))))))
     by_cases hc76 : ((nth (Sf.lst m l.length) (i60 : Int)).2) ≤ (((q : Int) + 1) - 1)
     ·refine zB Z Z (dT hc76) (oY hH73 (zE T.yU Z (cw (n := 5) Z Z)) (zB Z Z (dT hc76) (oY hH73 (xJ Z Z) (zB Z Z (dT hc76) (oM hH73 Z ?_)))))
      by_cases hc77 : 0 < (old : Int)
      ·refine zD Z Z (dT hc77) Z (zD Z Z (dT hc77) Z (zD Z Z (dT hc77) Z (zB Z Z (dT hc76) (oY hH73 (zU Z (dT hc77) Z) (oY hH73 (zU Z (dT hc76) Z) (zt (zO Z Z (region (oY hH73 (zE T.yU Z (cw (n := 4) Z Z)) (oY hH73 (zV Z Z om) (zS (n := 4) (j := 0) Z Z hH73 Z T.sz3 Z Z Z (by rfl) (fun w78 hH79 => (zC (yC ?_))))))))))))))
       exact ⟨_, ⟨_, ⟨Z, trivial⟩, Z⟩, (Heap.y9 (n := 3) (hH79.sub (sK (sC sR))) Z (by first | exact congrArg (fun z => [Value.int .i64 z]) (Sf.lost_t hlt (by simp [Sf.inG]; omega)) | exact congrArg (fun z => [Value.int .i64 z]) (Sf.lost_f hlt (by simp [Sf.inG]; omega))))⟩
      refine zB Z Z (dF hc77) (oY hH73 (zI T.X2 Z) (zB Z Z (dF hc77) (oY hH73 (zE T.yU Z (cw (n := 1) Z Z)) (zB Z Z (dF hc77) (oY hH73 (vH Z Z) (zB Z Z (dT hc76) (oY hH73 (zT Z (dF hc77) Z) (oY hH73 (zU Z (dT hc76) Z) (zt ?_)))))))))
      by_cases hc81 : 0 ≤ ((nth (Sf.lst m l.length) (i60 : Int)).1)
      ·refine zO Z (dT hc81) (region (oY hH73 (zE T.yU Z (cw (n := 4) Z Z)) (oY hH73 (zV Z Z om) (zS (n := 4) (j := 0) Z Z hH73 Z T.sz3 Z Z Z (by rfl) (fun w82 hH83 => (zC (yC ?_)))))))
       exact ⟨_, ⟨_, ⟨Z, trivial⟩, Z⟩, (Heap.y9 (n := 3) (hH83.sub (sK (sC sR))) Z (by first | exact congrArg (fun z => [Value.int .i64 z]) (Sf.lost_t hlt (by simp [Sf.inG]; omega)) | exact congrArg (fun z => [Value.int .i64 z]) (Sf.lost_f hlt (by simp [Sf.inG]; omega))))⟩
      refine zL Z (dF hc81) (skip (yC ?_))
      exact ⟨_, ⟨_, ⟨Z, trivial⟩, Z⟩, (Heap.y9 (n := 3) (hH73.sub (sK (sC sR))) Z (by first | exact congrArg (fun z => [Value.int .i64 z]) (Sf.lost_t hlt (by simp [Sf.inG]; omega)) | exact congrArg (fun z => [Value.int .i64 z]) (Sf.lost_f hlt (by simp [Sf.inG]; omega))))⟩
     refine zD Z Z (dF hc76) Z (zD Z Z (dF hc76) Z (zD Z Z (dF hc76) Z (xD Z Z Z (xD Z Z Z (xD Z Z Z (zD Z Z (dF hc76) Z (oY hH73 (zT Z (dF hc76) Z) (zt (zL Z Z (skip (yC ?_)))))))))))
     exact ⟨_, ⟨_, ⟨Z, trivial⟩, Z⟩, (Heap.y9 (n := 3) (hH73.sub (sK (sC sR))) Z (by first | exact congrArg (fun z => [Value.int .i64 z]) (Sf.lost_t hlt (by simp [Sf.inG]; omega)) | exact congrArg (fun z => [Value.int .i64 z]) (Sf.lost_f hlt (by simp [Sf.inG]; omega))))⟩
    refine zD Z Z (dF hc75) Z (zD Z Z (dF hc75) Z (zD Z Z (dF hc75) Z (zD Z Z (dF hc75) Z (zD Z Z (dF hc75) Z (oY hH73 (zT Z (dF hc75) Z) (oM hH73 Z (zD Z Z Z Z (zD Z Z Z Z (zD Z Z Z Z (xD Z Z Z (xD Z Z Z (xD Z Z Z (zD Z Z Z Z (oY hH73 (zT Z Z Z) (zt (zL Z Z (skip (yC ?_))))))))))))))))))
    exact ⟨_, ⟨_, ⟨Z, trivial⟩, Z⟩, (Heap.y9 (n := 3) (hH73.sub (sK (sC sR))) Z (by first | exact congrArg (fun z => [Value.int .i64 z]) (Sf.lost_t hlt (by simp [Sf.inG]; omega)) | exact congrArg (fun z => [Value.int .i64 z]) (Sf.lost_f hlt (by simp [Sf.inG]; omega))))⟩
   ·obtain ⟨rfl, _⟩ := hI
    have hH88 := (show Heap (_ :: (_ ++ _)) _ from hH64).mark
    have hle := Sf.lost_le (ps := (Sf.lst m l.length)) (A := (Sf.tmP room l.length (Sf.lst m l.length) q old).1) (last := q + 1) (old := old) (i := (((Sf.lst m l.length).map Sf.kvS)).length) hok3
    refine yC (zN (seq (zr (oY hH88 (zE T.yU Z (cw (n := 3) Z Z)) (oM hH88 Z (oY hH88 (uS Z Z) (zt ?_)))))))
    by_cases hc89 : ((q : Int) + 1) ≤ (l.length : Int)
    ·refine zO Z (dT hc89) (vD (fun w' => Heap ([⟨lo54, hi55, Bx c50 76 [.pointer (some ⟨bb, 0, none⟩)]⟩, bx b45 3 [(.int .i64 (Sf.lostTo (Sf.lst m l.length) (Sf.tmP room l.length (Sf.lst m l.length) q old).1 (q + 1) old (((Sf.lst m l.length).map Sf.kvS)).length))], bx b40 3 [(.int .i64 (old : Int))], bx b6 3 [(.int .i64 ((q : Int) + 1))], ow lo_4 hi_4 3 1 encI v_4 ((Sf.tmP room l.length (Sf.lst m l.length) q old).1), ow lo_5 hi_5 3 1 encI v_5 ((Sf.tmP room l.length (Sf.lst m l.length) q old).2), base w] ++ (D59 :: Ds).map markItem) w') [8] T.mixed (fun w90 hr91 => ?_))
     have hH92 := hH88.redrawn hr91
     refine y2 [1, 2, 3, 4] kz  _ _ _ kz (qM Z Z Z (zJ Z Z (yQ Z) (zJ Z Z (zI T.vZ Z) (zJ Z Z (zI T.YS Z) (zQ (xQ [0, 5] kz hH92 _ _ _ kz (zJ Z Z (zE T.yU Z (cw (n := 1) Z Z)) (zJ Z Z (xW T.yU Z (by rfl) Z (fun _ hw => (kb.now hw (n := 6) Z))) (zQ (y2 [6, 7] kz  _ _ _ kz (zJ Z Z (y8 Z Z om) (zJ Z Z (vN (show (Sf.lostTo (Sf.lst m l.length) (Sf.tmP room l.length (Sf.lst m l.length) q old).1 (q + 1) old (((Sf.lst m l.length).map Sf.kvS)).length) + (room - 1) = (Sf.lostOf room l.length (Sf.lst m l.length) (Sf.tmP room l.length (Sf.lst m l.length) q old).1 (q + 1) old) from by unfold Sf.lostOf; rw [if_pos om, hlm]) (zV Z Z om)) ?_))))))))))))
     refine zQ (xE [8] kz Z (⟨⟨_, Z, (zS (n := 1) (j := 0) Z Z hH92 Z T.sz3 Z Z Z (by rfl) (fun w93 hH94 => (zC (⟨(fun h => by cases h), (vY kz (zN (seq (zY (fun w' => Heap ([⟨lo54, hi55, Bx c50 76 [.pointer (some ⟨bb, 0, none⟩)]⟩, bx b45 3 [(.int .i64 (Sf.lostOf room l.length (Sf.lst m l.length) (Sf.tmP room l.length (Sf.lst m l.length) q old).1 (q + 1) old))], bx b40 3 [(.int .i64 (old : Int))], bx b6 3 [(.int .i64 ((q : Int) + 1))], ow lo_4 hi_4 3 1 encI v_4 ((Sf.tmP room l.length (Sf.lst m l.length) q old).1), ow lo_5 hi_5 3 1 encI v_5 ((Sf.tmP room l.length (Sf.lst m l.length) q old).2), base w] ++ (D59 :: Ds).map markItem) w') T.mixed (fun w95 hr96 => ?_)))))⟩))))⟩, trivial⟩))
     have hH97 := hH94.redrawn hr96
     refine zK [0, 1, 2, 3, 4, 5] kz hH97 _ _ _ kz (zJ Z Z (vN Z (zE T.yU Z (cw (n := 1) Z Z))) (qM Z Z Z (zJ Z Z (zE T.yU Z (cw (n := 3) Z Z)) (zJ Z Z (zP T.yS Z Z (Heap.yI T.zA hH97 (n := 4) Z).is om) (zJ Z Z (zE T.yU Z (fun _ hw => Rd.at (Heap.yI T.zA hw (n := 4) Z) (i := ((q : Int) + 1)) om (j := 0) Z)) (zJ Z Z (yL Z Z) (zQ (zX kz (zN ?_)))))))))
     by_cases hc98 : (Sf.lostOf room l.length (Sf.lst m l.length) (Sf.tmP room l.length (Sf.lst m l.length) q old).1 (q + 1) old) < (nth ((Sf.tmP room l.length (Sf.lst m l.length) q old).1) ((q : Int) + 1))
     ·have hlt5 := of_decide_eq_true (decide_eq_true hc98)
      refine zO Z (dT hc98) (zY (fun w' => Heap ([⟨lo54, hi55, Bx c50 76 [.pointer (some ⟨bb, 0, none⟩)]⟩, bx b45 3 [(.int .i64 (Sf.lostOf room l.length (Sf.lst m l.length) (Sf.tmP room l.length (Sf.lst m l.length) q old).1 (q + 1) old))], bx b40 3 [(.int .i64 (old : Int))], bx b6 3 [(.int .i64 ((q : Int) + 1))], base w] ++ (D59 :: Ds).map markItem) w') T.mixed (fun w99 hr100 => ?_))
      have hH101 := hH97.redrawn hr100
      refine zK [0, 1, 2, 3, 4, 5, 6] kz (hH101.sub (sK (sK (sK (sK (sC (sC sR))))))) _ _ _ kz (qM Z Z Z (zJ Z Z (zE T.yU Z (cw (n := 3) Z Z)) (qM Z Z Z (zJ Z Z (zE T.yU Z (cw (n := 3) Z Z)) (zJ Z Z (vN Z (zE T.yU Z (cw (n := 1) Z Z))) (zJ Z Z (zE T.yU Z (cw (n := 2) Z Z)) (zJ Z Z (zP T.yS Z Z (Heap.yI T.zA hH101 (n := 4) Z).is om) (zQ (z1 7 kz Z (x4 (n := 4) (i := ((q : Int) + 1)) (k := 0) (us := [(.int .i64 (Sf.lostOf room l.length (Sf.lst m l.length) (Sf.tmP room l.length (Sf.lst m l.length) q old).1 (q + 1) old))]) (z := (Sf.lostOf room l.length (Sf.lst m l.length) (Sf.tmP room l.length (Sf.lst m l.length) q old).1 (q + 1) old)) T.zA Z Z hH101 Z om T.sz3 Z Z Z (Nat.le_of_ble_eq_true Z) (fun w102 hH103 => (zC (⟨(hH103.sub (sK (sK (sK (sK (sC (sC sR))))))), (zK [8] kz (hH103.sub (sK (sK (sK (sK (sC (sC sR))))))) _ _ _ kz (zJ Z Z (zP T.yS Z Z (Heap.yI T.zA hH103 (n := 5) Z).is om) (zQ (z1 9 kz Z (x4 (n := 5) (i := ((q : Int) + 1)) (k := 0) (us := [(.int .i64 (old : Int))]) (z := (old : Int)) T.zA Z Z hH103 Z om T.sz3 Z Z Z (Nat.le_of_ble_eq_true Z) (fun w104 hH105 => (zC (⟨(hH105.sub (sK (sK (sK (sK (sC (sC sR))))))), ?_⟩))))))))⟩)))))))))))))
      refine zX kz (yC (zN (region (oY hH105 (zV Z Z om) (oM hH105 Z (zC (y0 (old + 1, (D59 :: Ds), v_4, lo_4, hi_4, v_5, lo_5, hi_5) (uC Z (uC Z (uC Z (uC Z (uC Z (uC Z (uC Z (uC Z (Sub.nil _))))))))) (⟨(Heap.y1 (n := 2) (Heap.y1 (n := 1) (hH105.sub (sC (sC (sC sR)))) Z (by first | exact Sf.tmP_t1 hlt5 | exact congrArg Prod.fst (Sf.tmP_f hnl5))) Z (by first | exact Sf.tmP_t2 hlt5 | exact congrArg Prod.snd (Sf.tmP_f hnl5))), om⟩) om3)))))))
     have hnl5 := of_decide_eq_false (decide_eq_false hc98)
     refine zL Z (dF hc98) (skip (yC (zN (region (oY hH97 (zV Z Z om) (oM hH97 Z (zC (y0 (old + 1, (D59 :: Ds), v_4, lo_4, hi_4, v_5, lo_5, hi_5) (uC Z (uC Z (uC Z (uC Z (uC Z (uC Z (uC Z (uC Z (Sub.nil _))))))))) (⟨(Heap.y1 (n := 2) (Heap.y1 (n := 1) (hH97.sub (sC (sC (sC sR)))) Z (by first | exact Sf.tmP_t1 hlt5 | exact congrArg Prod.fst (Sf.tmP_f hnl5))) Z (by first | exact Sf.tmP_t2 hlt5 | exact congrArg Prod.snd (Sf.tmP_f hnl5))), om⟩) om3))))))))
    refine zL Z (dF hc89) (skip (zN (seq (zY (fun w' => Heap ([⟨lo54, hi55, Bx c50 76 [.pointer (some ⟨bb, 0, none⟩)]⟩, bx b45 3 [(.int .i64 (Sf.lostTo (Sf.lst m l.length) (Sf.tmP room l.length (Sf.lst m l.length) q old).1 (q + 1) old (((Sf.lst m l.length).map Sf.kvS)).length))], bx b40 3 [(.int .i64 (old : Int))], bx b6 3 [(.int .i64 ((q : Int) + 1))], ow lo_4 hi_4 3 1 encI v_4 ((Sf.tmP room l.length (Sf.lst m l.length) q old).1), ow lo_5 hi_5 3 1 encI v_5 ((Sf.tmP room l.length (Sf.lst m l.length) q old).2), base w] ++ (D59 :: Ds).map markItem) w') T.mixed (fun w108 hr109 => ?_)))))
    have hH110 := hH88.redrawn hr109
    refine zK [0, 1, 2, 3, 4, 5] kz hH110 _ _ _ kz (zJ Z Z (vN (show (Sf.lostTo (Sf.lst m l.length) (Sf.tmP room l.length (Sf.lst m l.length) q old).1 (q + 1) old (((Sf.lst m l.length).map Sf.kvS)).length) = (Sf.lostOf room l.length (Sf.lst m l.length) (Sf.tmP room l.length (Sf.lst m l.length) q old).1 (q + 1) old) from by unfold Sf.lostOf; rw [if_neg om, hlm]; omega) (zE T.yU Z (cw (n := 1) Z Z))) ?_)
    refine qM Z Z Z (zJ Z Z (zE T.yU Z (cw (n := 3) Z Z)) (zJ Z Z (zP T.yS Z Z (Heap.yI T.zA hH110 (n := 4) Z).is om) (zJ Z Z (zE T.yU Z (fun _ hw => Rd.at (Heap.yI T.zA hw (n := 4) Z) (i := ((q : Int) + 1)) om (j := 0) Z)) (zJ Z Z (yL Z Z) (zQ (zX kz (zN ?_)))))))
    by_cases hc111 : (Sf.lostOf room l.length (Sf.lst m l.length) (Sf.tmP room l.length (Sf.lst m l.length) q old).1 (q + 1) old) < (nth ((Sf.tmP room l.length (Sf.lst m l.length) q old).1) ((q : Int) + 1))
    ·have hlt5 := of_decide_eq_true (decide_eq_true hc111)
     refine zO Z (dT hc111) (zY (fun w' => Heap ([⟨lo54, hi55, Bx c50 76 [.pointer (some ⟨bb, 0, none⟩)]⟩, bx b45 3 [(.int .i64 (Sf.lostTo (Sf.lst m l.length) (Sf.tmP room l.length (Sf.lst m l.length) q old).1 (q + 1) old (((Sf.lst m l.length).map Sf.kvS)).length))], bx b40 3 [(.int .i64 (old : Int))], bx b6 3 [(.int .i64 ((q : Int) + 1))], base w] ++ (D59 :: Ds).map markItem) w') T.mixed (fun w112 hr113 => ?_))
     have hH114 := hH110.redrawn hr113
     refine zK [0, 1, 2, 3, 4, 5, 6] kz (hH114.sub (sK (sK (sK (sK (sC (sC sR))))))) _ _ _ kz (qM Z Z Z (zJ Z Z (zE T.yU Z (cw (n := 3) Z Z)) (qM Z Z Z (zJ Z Z (zE T.yU Z (cw (n := 3) Z Z)) (zJ Z Z (vN (show (Sf.lostTo (Sf.lst m l.length) (Sf.tmP room l.length (Sf.lst m l.length) q old).1 (q + 1) old (((Sf.lst m l.length).map Sf.kvS)).length) = (Sf.lostOf room l.length (Sf.lst m l.length) (Sf.tmP room l.length (Sf.lst m l.length) q old).1 (q + 1) old) from by unfold Sf.lostOf; rw [if_neg om, hlm]; omega) (zE T.yU Z (cw (n := 1) Z Z))) ?_)))))
     refine zJ Z Z (zE T.yU Z (cw (n := 2) Z Z)) (zJ Z Z (zP T.yS Z Z (Heap.yI T.zA hH114 (n := 4) Z).is om) (zQ (z1 7 kz Z (x4 (n := 4) (i := ((q : Int) + 1)) (k := 0) (us := [(.int .i64 (Sf.lostOf room l.length (Sf.lst m l.length) (Sf.tmP room l.length (Sf.lst m l.length) q old).1 (q + 1) old))]) (z := (Sf.lostOf room l.length (Sf.lst m l.length) (Sf.tmP room l.length (Sf.lst m l.length) q old).1 (q + 1) old)) T.zA Z Z hH114 Z om T.sz3 Z Z Z (Nat.le_of_ble_eq_true Z) (fun w115 hH116 => (zC (⟨(hH116.sub (sK (sK (sK (sK (sC (sC sR))))))), (zK [8] kz (hH116.sub (sK (sK (sK (sK (sC (sC sR))))))) _ _ _ kz (zJ Z Z (zP T.yS Z Z (Heap.yI T.zA hH116 (n := 5) Z).is om) (zQ (z1 9 kz Z (x4 (n := 5) (i := ((q : Int) + 1)) (k := 0) (us := [(.int .i64 (old : Int))]) (z := (old : Int)) T.zA Z Z hH116 Z om T.sz3 Z Z Z (Nat.le_of_ble_eq_true Z) (fun w117 hH118 => (zC (⟨(hH118.sub (sK (sK (sK (sK (sC (sC sR))))))), (zX kz (yC (zN (region (oY hH118 (zV Z Z om) (oM hH118 Z ?_))))))⟩))))))))⟩)))))))
     refine zC (y0 (old + 1, (D59 :: Ds), v_4, lo_4, hi_4, v_5, lo_5, hi_5) (uC Z (uC Z (uC Z (uC Z (uC Z (uC Z (uC Z (uC Z (Sub.nil _))))))))) (⟨(Heap.y1 (n := 2) (Heap.y1 (n := 1) (hH118.sub (sC (sC (sC sR)))) Z (by first | exact Sf.tmP_t1 hlt5 | exact congrArg Prod.fst (Sf.tmP_f hnl5))) Z (by first | exact Sf.tmP_t2 hlt5 | exact congrArg Prod.snd (Sf.tmP_f hnl5))), om⟩) om3)
    have hnl5 := of_decide_eq_false (decide_eq_false hc111)
    refine zL Z (dF hc111) (skip (yC (zN (region (oY hH110 (zV Z Z om) (oM hH110 Z (zC (y0 (old + 1, (D59 :: Ds), v_4, lo_4, hi_4, v_5, lo_5, hi_5) (uC Z (uC Z (uC Z (uC Z (uC Z (uC Z (uC Z (uC Z (Sub.nil _))))))))) (⟨(Heap.y1 (n := 2) (Heap.y1 (n := 1) (hH110.sub (sC (sC (sC sR)))) Z (by first | exact Sf.tmP_t1 hlt5 | exact congrArg Prod.fst (Sf.tmP_f hnl5))) Z (by first | exact Sf.tmP_t2 hlt5 | exact congrArg Prod.snd (Sf.tmP_f hnl5))), om⟩) om3))))))))
   exact hI.elim
  refine zL Z (dF hc39) (exit (yZ (xF (z7 (yC (zN (seq (zr (oY hH38 (zE T.yU Z (cw (n := 0) Z Z)) (zq (yD (z := (.int .i64 0)) (fun _ => by kernel_rfl) Z Z hH38 (fun b121 w122 hH123 => (zS (n := 0) (j := 0) Z Z hH123 Z T.sz3 Z Z Z (by rfl) (fun w124 hH125 => (zq (oY hH125 (zE T.yU Z (cw (n := 0) Z Z)) (oY hH125 (zV Z Z om) (zS (n := 0) (j := 0) Z Z hH125 Z T.sz3 Z Z Z (by rfl) (fun w126 hH127 => ?_)))))))))))))))))))
  refine zC (y0 (q + 1, b121, Ds, v_4, lo_4, hi_4, v_5, lo_5, hi_5) (uC Z (uC Z (uC Z (uC Z (uC Z (uC Z (Sub.nil _))))))) (⟨(Heap.y9 (n := 0) (Heap.y1 (n := 2) (Heap.y1 (n := 1) (hH127.sub (sK (sC sR))) Z (by rw [← Sf.tmP_done, show old = q + 1 by omega])) Z (by rw [← Sf.tmP_done, show old = q + 1 by omega])) Z (congrArg (fun z : Int => [Value.int .i64 z]) (show (q : Int) + 1 + 1 = ((q + 1 : Nat) : Int) + 1 by omega))), om⟩) om3)
 refine zL Z (dF hc34) (exit (yZ (xF (z7 (zN (seq ?_))))))
 have hqe2 : q = l.length + 1 := by omega
 have hb00 := hok.b (l.length + 1) (by omega)
 refine region (oA hH33 Z (zt (seq (seq ?_))))
 have hb0 := hok.b (l.length + 1) (by omega)
 rw [Int.natCast_succ] at hb0
 refine region (oM hH33 Z (oM hH33 Z (oY hH33 (zV Z Z om) (oY hH33 (zP T.yS Z Z (Heap.yI T.zA hH33 (n := 2) Z).is om) (oY hH33 (zE T.yU Z (fun _ hw => Rd.at (Heap.yI T.zA hw (n := 2) Z) (i := (l.length : Int) + 1) om (j := 0) Z)) (oA hH33 Z (zt (block ?_))))))))
 have hH129 := v8 (enc := encI) 3 1 hH33
 refine loop (S := Nat × Int × List Int × Value × Nat × Nat) (fun (f, a, out, v_10, lo_10, hi_10) => [(11, (.int .i64 a)), (10, v_10), (2, (.slice none 0 0)), (5, v_5)]) (fun (f, a, out, v_10, lo_10, hi_10) w1 => Heap ([ow lo_10 hi_10 3 1 encI v_10 out, bx b6 3 [(.int .i64 ((q : Int) + 1))], ow lo_4 hi_4 3 1 encI v_4 ((Sf.tmO room l.length (Sf.lst m l.length) q).1), ow lo_5 hi_5 3 1 encI v_5 ((Sf.tmO room l.length (Sf.lst m l.length) q).2), base w] ++ Ds.map markItem) w1 ∧ 0 ≤ a ∧ a < (l.length : Int) + 2 ∧ a.toNat ≤ f ∧ out.length + a.toNat ≤ l.length + 2 ∧ out ++ Sf.back (Sf.tmO room l.length (Sf.lst m l.length) q).2 f a = (Sf.back (Sf.tmO room l.length (Sf.lst m l.length) q).2 (l.length + 2) (nth (Sf.tmO room l.length (Sf.lst m l.length) q).2 ((l.length : Int) + 1)))) (fun (f, a, out, v_10, lo_10, hi_10) => a.toNat) ((l.length + 2), (nth (Sf.tmO room l.length (Sf.lst m l.length) q).2 ((l.length : Int) + 1)), [], (.slice none 0 0), w32.heap.size, w32.heap.size) (uC Z (uC Z (uC Z (uC Z (Sub.nil _))))) ?_ ?_
 ·exact ⟨hH129, hb0.1, om, om, by simp only [List.length_nil]; omega, Z⟩
 rintro ⟨f, a, out, v_10, lo_10, hi_10⟩ w130 ⟨hH131, ha0, ha1, haf, hal, hout⟩
 refine seq (zr (oM hH131 Z (oY hH131 (xJ Z Z) (zt ?_))))
 by_cases hc132 : 0 < a
 ·have hnx := hok.next (a := a) (by omega) (by omega)
  refine zO Z (dT hc132) (skip (zN (seq (block (region (oM hH131 Z (oM hH131 Z (oY hH131 (y8 Z Z om) (z2 T.zA [a - 1] Z (fun w => by kernel_rfl) hH131 (fun u133 lo135 hi136 w134 hH137 => (yB (n := 1) T.zA Z Z Z hH137 Z (Heap.yI T.zA hH137 (n := 0) Z) om2 (fun u138 lo140 hi141 w139 hH142 => (oA hH142 Z (zC (yC (zN (region (oM hH142 Z (oM hH142 Z (oY hH142 (zP T.yS Z Z (Heap.yI T.zA hH142 (n := 4) Z).is om) (oY hH142 (zE T.yU Z (fun _ hw => Rd.at (Heap.yI T.zA hw (n := 4) Z) (i := a) om (j := 0) Z)) (oA hH142 Z (zC ?_)))))))))))))))))))))))
  refine y0 (f - 1, nth ((Sf.tmO room l.length (Sf.lst m l.length) q).2) a, (out ++ [a - 1]), u138, lo140, hi141) (uC Z (uC Z (uC Z (uC Z (Sub.nil _))))) (⟨(hH142.sub (sC sR)), hnx.1, om, om, by simp only [List.length_append, List.length_singleton]; omega, Sf.back_step om haf hout⟩) om3
 have hT : out = (Sf.back (Sf.tmO room l.length (Sf.lst m l.length) q).2 (l.length + 2) (nth (Sf.tmO room l.length (Sf.lst m l.length) q).2 ((l.length : Int) + 1))) := by have h9 := hout; rw [Sf.back_f (by omega), List.append_nil] at h9; exact h9
 refine zL Z (dF hc132) (exit (yZ (xF (z7 (zN (seq ?_))))))
 by_cases hc144 : out = []
 ·have he : out = [] := ‹_›
  refine region (oM hH131 Z (zM Z Z Z hH131 (zDt (by have h := (Heap.yI T.zA hH131 (n := 0) rfl); rwa [he] at h)) (fun w145 hH146 => (zs (oM hH146 Z (oA hH146 Z (zt (ret (kY (H := [ow lo_10 hi_10 3 1 encI v_10 out]) Ds ((hH146.sub (sK (sC (sC (sC sR))))).front (n := 1) Z) (fun w' hf => (yN Z (rt Z))) (fun w' hf => ?_))))))))))
  have h8 : Rd encI 1 v_10 out w' := Heap.yI T.zA hf (n := 0) rfl
  show Rd encI 1 v_10 (Sf.tm room l.length (Sf.lst m l.length)) w'
  rw [Sf.tm, ← hqe2, ← hT, he]; rwa [he] at h8
 have hne : ¬ out = [] := ‹_›
 refine region (oM hH131 Z ?_)
 obtain ⟨g148, cap149, ev150, hc151, ec152, hin153⟩ := Ow.cut (q := 0) (show Ow _ _ _ _ _ _ _ _ from hH131.get (n := 0) rfl) (List.length_pos_iff.2 hne)
 refine vB (g := g148) (n := 0) Z Z Z hH131 Z hin153 ((show FnM _ _ [v_10].toArray _ _ _ from by rw [ev150]; exact zC0 (off := 0) (m := out.length) (n := out.length) (cap := cap149) (xs := out) (by have h := Heap.own hH131 (n := 0) rfl; rwa [ev150] at h) om om rfl om)) (fun u156 w154 hH155 hv157 => ?_)
 have hH158 := Heap.weaken hH155 (n := 0) Z (φ := fun w' => Rd encI 1 v_10 out.reverse w') (fun w' h => by rw [ev150]; simpa using h)
 refine zs (oM hH158 Z (oA hH158 Z (zt (ret (kY (H := [⟨lo_10, hi_10, fun w' => Rd encI 1 v_10 out.reverse w'⟩]) Ds ((hH158.sub (sK (sC (sC (sC sR))))).front (n := 1) Z) (fun w' hf => (yN Z (rt Z))) (fun w' hf => ?_))))))
 have h8 : Rd encI 1 v_10 out.reverse w' := hf.get (n := 0) rfl
 show Rd encI 1 v_10 (Sf.tm room l.length (Sf.lst m l.length)) w'
 rw [Sf.tm, ← hqe2, ← hT]; exact h8
end Go.Fip
namespace Go.Fip
open Go.Proofs Go.RowKit
theorem zE4 {bb mb : Nat} {room : Int} {v : Value} {C : List Int} {w : World} (kb : Bx bb 148 (seg [.int .i64 room, v] C [.map (some mb)]) w) (hC : C.length = 9) {l : List Int} (h0 : Rd encI 1 v l w) (hn : l.length ≤ 16) {m : Sf.Mm} (hm : Mp Sf.kvS Sf.vvI mb m w) (hw : ∀ x ∈ l, 1 ≤ x ∧ x ≤ 8) {want : Int}  :
  Fn Tryz.prog 124 [(.pointer (some ⟨bb, 0, none⟩)), (.int .i64 want)].toArray w (fun u _ => u = .int .i64 (Sf.dp l (Sf.lst m l.length) want)) := by
 refine fz Tryz.func124 Z kz Z Z (fun hH => ?_)
 have hll := Sf.lst_len (m := m) l.length hn
 refine zr (yY Z Z Z hH (fun b1 w2 hH3 => (yY Z Z Z hH3 (fun b4 w5 hH6 => (yD (z := (.int .i64 0)) (fun _ => by kernel_rfl) Z Z hH6 (fun b7 w8 hH9 => (zt (seq (zr (oY hH9 (zE T.GY Z (cw (n := 2) Z Z)) (yV Z Z Z hH9 (zCp) (fun u13 w11 lo14 hi15 hH12 hv16 => ?_))))))))))))
 obtain ⟨c10, hu, -⟩ := hv16
 subst hu
 have hH17 := Heap.zCq hH12 (n := 0) Z
 refine zt (block (rangeFunc (xs := ((Sf.lst m l.length).map Sf.kvS)) Z (zAt (bb := bb) (mb := mb) (room := room) (v := v) (C := C) (l := l) (m := m) hC hn) Z hH17 (fun i H => H = [⟨lo14, hi15, Bx c10 76 [.pointer (some ⟨bb, 0, none⟩)]⟩, bx b7 3 [(.int .i64 0)], bx b4 3 [(.int .i64 want)], bx b1 76 [(.pointer (some ⟨bb, 0, none⟩))], base w] ∧ ∀ j, j < i → ¬ (nth (Sf.lst m l.length) (j : Int)).2 = want) (fun c H => ∃ a : Int, c = .ret ∧ H = [⟨lo14, hi15, Bx c10 76 [.pointer (some ⟨bb, 0, none⟩)]⟩, bx b7 3 [(.int .i64 a)], bx b4 3 [(.int .i64 want)], bx b1 76 [(.pointer (some ⟨bb, 0, none⟩))], base w] ∧ a = (Sf.dp l (Sf.lst m l.length) want)) ⟨Z, S.all_zero⟩ (fun i H w hI hw => ?_) (fun l18 D19 i20 x21 H w23 rc hx22 hI hH24 => ?_) (fun D19 H w23 hI hH24 => ?_) (fun D19 c H w23 hI hH24 => ?_)))
 ·obtain ⟨rfl, _⟩ := hI
  exact (show BW c10 bb mb room v C m l _ from ⟨hw.get (n := 0) Z, kb.now hw (n := 4) Z, hm.now hw (n := 4) Z, h0.now hw (n := 4) Z⟩)
 ·obtain ⟨rfl, hall⟩ := hI
  obtain ⟨hlt, hxe⟩ := j6 hx22
  subst hxe
  obtain ⟨hp1, hp2, hp3⟩ := Sf.lst_nth hlt
  have hcl : (Sf.cutL l (nth (Sf.lst m l.length) (i20 : Int))).length ≤ l.length := by unfold Sf.cutL; rw [List.length_drop, List.length_take]; omega
  have hce : (Sf.cutL l (nth (Sf.lst m l.length) (i20 : Int))).length = ((l.take ((nth (Sf.lst m l.length) (i20 : Int))).2.toNat).drop ((nth (Sf.lst m l.length) (i20 : Int))).1.toNat).length := rfl
  refine region (yD (z := (.agg #[(.int .i64 0), (.int .i64 0)])) (fun _ => by kernel_rfl) Z Z hH24 (fun b27 w28 hH29 => (zS (n := 0) (j := 0) Z Z hH29 Z T.GN Z Z Z (by rfl) (fun w30 hH31 => (zC (⟨_, (hH31.front (n := 1) Z), fun w32 hH33 => (block (seq (zr (oY hH33 (zI T.ZH Z) (oY hH33 (zE T.yU Z (cw (n := 1) Z Z)) (oY hH33 (zE T.yU Z (cw (n := 5) Z Z)) (oY hH33 (yF Z Z) (zt ?_))))))))⟩))))))
  by_cases hc35 : ((nth (Sf.lst m l.length) (i20 : Int)).2) = want
  ·have heq : ((nth (Sf.lst m l.length) (i20 : Int))).2 = want := by have hq := (zG hc35); simpa using hq
   refine zL Z (zG hc35) (skip (zu (yD (z := (.agg #[(.int .i64 0), (.int .i64 0), (.int .i64 0), (.int .i64 0), (.int .i64 0), (.int .i64 0), (.int .i64 0), (.int .i64 0), (.int .i64 0)])) (fun _ => by kernel_rfl) Z Z hH33 (fun b36 w37 hH38 => (zt (seq (seq ?_)))))))
   have hH39 := Heap.y9 hH38 (n := 0) Z (show [(.int .i64 0), (.int .i64 0), (.int .i64 0), (.int .i64 0), (.int .i64 0), (.int .i64 0), (.int .i64 0), (.int .i64 0), (.int .i64 0)] = (ints (List.replicate 9 0)) from Z)
   refine zY (fun w' => Heap [bx b36 145 (ints (List.replicate 9 0)), recItem l18 { rc with state := .busy }, bx b27 212 [(.int .i64 ((nth (Sf.lst m l.length) (i20 : Int)).1)), (.int .i64 ((nth (Sf.lst m l.length) (i20 : Int)).2))], markItem D19, ⟨lo14, hi15, Bx c10 76 [.pointer (some ⟨bb, 0, none⟩)]⟩, bx b7 3 [(.int .i64 0)], bx b4 3 [(.int .i64 want)], bx b1 76 [(.pointer (some ⟨bb, 0, none⟩))], base w] w') T.mixed (fun w40 hr41 => ?_)
   have hH42 := hH39.redrawn hr41
   refine zK [0, 1, 2, 3, 4, 5, 6, 7, 8, 9, 10, 11] kz hH42 _ _ _ kz (zJ Z Z (zE T.GY Z (cw (n := 7) Z Z)) (zJ Z Z (yQ Z) (zJ Z Z (zI T.vZ Z) (zJ Z Z (zI T.vJ Z) (zJ Z Z (xW T.xB Z (by rfl) Z (fun _ hw => (kb.now hw (n := 8) Z))) (zJ Z Z (zI T.X2 Z) (zJ Z Z (zE T.yU Z (cw (n := 2) Z Z)) (zJ Z Z (zI T.ZH Z) (zJ Z Z (zE T.yU Z (cw (n := 2) Z Z)) (zJ Z Z (ZZ T.yS Z Z Z (h0.now hH42 (n := 8) Z).is om) (zJ Z Z (z8 T.yS Z (Rd.cut (h0.now hH42 (n := 8) Z) (lo := ((nth (Sf.lst m l.length) (i20 : Int)).1).toNat) (hi := ((nth (Sf.lst m l.length) (i20 : Int)).2).toNat) om om).is) (qM Z Z Z (zQ (zX kz (zN (block (loop (S := Nat) (fun k => [(30, (.int .i64 (k : Int))), (4, (.pointer (some ⟨b7, 0, none⟩))), (6, (.pointer (some ⟨b36, 0, none⟩))), (28, (cutv v 1 ((nth (Sf.lst m l.length) (i20 : Int)).1).toNat ((nth (Sf.lst m l.length) (i20 : Int)).2).toNat)), (29, (.int .i64 (((l.take ((nth (Sf.lst m l.length) (i20 : Int)).2).toNat).drop ((nth (Sf.lst m l.length) (i20 : Int)).1).toNat).length : Int)))]) (fun k w1 => Heap [bx b36 145 (ints (Sf.sn (Sf.cutL l (nth (Sf.lst m l.length) (i20 : Int))) k)), recItem l18 { rc with state := .busy }, bx b27 212 [(.int .i64 ((nth (Sf.lst m l.length) (i20 : Int)).1)), (.int .i64 ((nth (Sf.lst m l.length) (i20 : Int)).2))], markItem D19, ⟨lo14, hi15, Bx c10 76 [.pointer (some ⟨bb, 0, none⟩)]⟩, bx b7 3 [(.int .i64 0)], bx b4 3 [(.int .i64 want)], bx b1 76 [(.pointer (some ⟨bb, 0, none⟩))], base w] w1 ∧ k ≤ (Sf.cutL l (nth (Sf.lst m l.length) (i20 : Int))).length) (fun k => (Sf.cutL l (nth (Sf.lst m l.length) (i20 : Int))).length - k) (0) (uC Z (uC Z (uC Z (uC Z (uC Z (Sub.nil _)))))) ?_ ?_)))))))))))))))))
   ·exact ⟨(Heap.y9 (n := 0) hH42 Z (Z)), om⟩
   rintro k w43 ⟨hH44, hk⟩
   refine zr (oY hH44 (yL Z Z) (zt (seq ?_)))
   by_cases hc45 : (k : Int) < (((l.take ((nth (Sf.lst m l.length) (i20 : Int)).2).toNat).drop ((nth (Sf.lst m l.length) (i20 : Int)).1).toNat).length : Int)
   ·refine zO Z (dT hc45) (skip (zN (seq (block (zr (oY hH44 (zP T.yS Z Z (Rd.cut (h0.now hH44 (n := 8) Z) (lo := ((nth (Sf.lst m l.length) (i20 : Int)).1).toNat) (hi := ((nth (Sf.lst m l.length) (i20 : Int)).2).toNat) om om).is om) (oY hH44 (zE T.yU Z (fun _ hw => Rd.at (Rd.cut (h0.now hw (n := 8) Z) (lo := ((nth (Sf.lst m l.length) (i20 : Int)).1).toNat) (hi := ((nth (Sf.lst m l.length) (i20 : Int)).2).toNat) om om) (i := (k : Int)) om (j := 0) Z)) (oA hH44 Z (zt ?_)))))))))
    have hx8 := hw (nth (Sf.cutL l (nth (Sf.lst m l.length) (i20 : Int))) (k : Int)) (by rw [yG (by omega)]; exact List.mem_of_mem_take (List.mem_of_mem_drop (List.getElem_mem (by omega))))
    have hx9 : 1 ≤ nth ((l.take ((nth (Sf.lst m l.length) (i20 : Int))).2.toNat).drop ((nth (Sf.lst m l.length) (i20 : Int))).1.toNat) (k : Int) ∧ nth ((l.take ((nth (Sf.lst m l.length) (i20 : Int))).2.toNat).drop ((nth (Sf.lst m l.length) (i20 : Int))).1.toNat) (k : Int) ≤ 8 := hx8
    have hsl := Sf.sn_len (Sf.cutL l (nth (Sf.lst m l.length) (i20 : Int))) k
    refine region (oM hH44 Z (oY hH44 (yA T.j8 Z Z om) (zBu (n := 0) Z Z hH44 Z T.sz3 om (fun w46 hH47 => (zC (yC (zN (region (oY hH47 (zV Z Z om) (oM hH47 Z (zC (y0 (k + 1) (uC Z (uC Z (uC Z (uC Z (uC Z (Sub.nil _)))))) (⟨(Heap.y9 (n := 0) hH47 Z (Z)), om⟩) om3))))))))))))
   refine zL Z (dF hc45) (exit (yZ (xF (z7 (zu (oA hH44 Z (zt (seq (seq ?_)))))))))
   have hsl2 := Sf.sn_len (Sf.cutL l (nth (Sf.lst m l.length) (i20 : Int))) k
   have hke : k = (Sf.cutL l (nth (Sf.lst m l.length) (i20 : Int))).length := by omega
   refine region (oY hH44 (uD T.vS om Z (fun _ hw => Heap.xV hw (n := 0) Z)) (oM hH44 Z (zt (block (loop (S := Nat) (fun k2 => [(38, (.int .i64 (k2 : Int))), (9, (.int .i64 (Sf.sumTo (Sf.sn (Sf.cutL l (nth (Sf.lst m l.length) (i20 : Int))) k) k2))), (4, (.pointer (some ⟨b7, 0, none⟩))), (37, (ag (Sf.sn (Sf.cutL l (nth (Sf.lst m l.length) (i20 : Int))) k)))]) (fun k2 w1 => Heap [bx b36 145 (ints (Sf.sn (Sf.cutL l (nth (Sf.lst m l.length) (i20 : Int))) k)), recItem l18 { rc with state := .busy }, bx b27 212 [(.int .i64 ((nth (Sf.lst m l.length) (i20 : Int)).1)), (.int .i64 ((nth (Sf.lst m l.length) (i20 : Int)).2))], markItem D19, ⟨lo14, hi15, Bx c10 76 [.pointer (some ⟨bb, 0, none⟩)]⟩, bx b7 3 [(.int .i64 0)], bx b4 3 [(.int .i64 want)], bx b1 76 [(.pointer (some ⟨bb, 0, none⟩))], base w] w1 ∧ k2 ≤ 9 ∧ 0 ≤ Sf.sumTo (Sf.sn (Sf.cutL l (nth (Sf.lst m l.length) (i20 : Int))) k) k2 ∧ Sf.sumTo (Sf.sn (Sf.cutL l (nth (Sf.lst m l.length) (i20 : Int))) k) k2 ≤ k2) (fun k2 => 9 - k2) (0) (uC Z (uC Z (uC Z (uC Z (Sub.nil _))))) ?_ ?_)))))
   ·exact ⟨hH44, om, Int.le_refl _, Int.le_refl _⟩
   rintro k2 w48 ⟨hH49, hk2, hs0, hs1⟩
   refine zr (oY hH49 (yL Z Z) (zt (seq ?_)))
   by_cases hc50 : (k2 : Int) < 9
   ·refine zO Z (dT hc50) (skip (zN (seq (block (seq ?_)))))
    have hnk := Sf.sn_01 (Sf.cutL l (nth (Sf.lst m l.length) (i20 : Int))) k k2 (by omega)
    have hss : 0 ≤ Sf.sumTo (Sf.sn (Sf.cutL l (nth (Sf.lst m l.length) (i20 : Int))) k) (k2 + 1) ∧ Sf.sumTo (Sf.sn (Sf.cutL l (nth (Sf.lst m l.length) (i20 : Int))) k) (k2 + 1) ≤ ((k2 + 1 : Nat) : Int) := by show 0 ≤ Sf.sumTo _ k2 + nth _ (k2 : Int) ∧ Sf.sumTo _ k2 + nth _ (k2 : Int) ≤ _; omega
    refine region (oY hH49 (K5 T.j8 T.yU Z Z (Sf.sn_len _ _) om) (oA hH49 Z (zq (oM hH49 Z (oM hH49 Z (oY hH49 (zV Z Z om) (oA hH49 Z (zC (yC (zN (region (oY hH49 (zV Z Z om) (oM hH49 Z (zC (y0 (k2 + 1) (uC Z (uC Z (uC Z (uC Z (Sub.nil _))))) (⟨hH49, om, hss⟩) om3)))))))))))))))
   refine zL Z (dF hc50) (exit (yZ (xF (z7 (zN (seq ?_))))))
   have hk9 : k2 = 9 := by omega
   refine region (oM hH49 Z (zS (n := 5) (j := 0) Z Z hH49 Z T.sz3 Z Z Z (by rfl) (fun w51 hH52 => (zt (ret (yE ?_))))))
   exact ⟨_, ⟨_, ⟨(Sf.sumTo (Sf.sn (Sf.cutL l (nth (Sf.lst m l.length) (i20 : Int))) k) k2), Z, Z, by rw [hk9, hke]; exact Sf.dp_hit hlt heq hall⟩, Z⟩, (hH52.sub (sC (sK (sC sR))))⟩
  have hne : ¬ ((nth (Sf.lst m l.length) (i20 : Int))).2 = want := by have hq := (zF hc35); simpa using hq
  refine zO Z (zF hc35) (exit (yZ (z7 ?_)))
  exact ⟨_, ⟨_, ⟨Z, S.all_snoc hall hne⟩, Z⟩, (hH33.sub (sK (sC sR)))⟩
 ·obtain ⟨rfl, hall⟩ := hI
  have hH55 := hH24.perm (List.perm_append_comm (l₁ := [_]))
  refine yC (zu (zS (n := 1) (j := 0) Z Z hH55 Z T.sz3 Z Z Z (by rfl) (fun w56 hH57 => (zt (ret (kY (H := [bx b7 3 [(.int .i64 0)]]) [D19] ((hH57.sub (sC (sK (sC (sC sR))))).front (n := 1) Z) (fun w' hf => (yN Z (rv1 Z T.yU (yM (Heap.xV hf (n := 1) Z) Z)))) (fun w' hf => ?_)))))))
  first | (rw [ha]; done) | exact congrArg (Value.int .i64) (Sf.dp_miss (fun j hj => hall j (by rw [List.length_map]; exact hj)))
 obtain ⟨a, rfl, rfl, ha⟩ := hI
 have hH59 := hH24.perm (List.perm_append_comm (l₁ := [_]))
 refine ret (yE (z6 (kY (H := [bx b7 3 [(.int .i64 a)]]) [D19] ((hH59.sub (sC (sK (sC (sC sR))))).front (n := 1) Z) (fun w' hf => (yN Z (rv1 Z T.yU (yM (Heap.xV hf (n := 1) Z) Z)))) (fun w' hf => ?_))))
 first | (rw [ha]; done) | exact congrArg (Value.int .i64) (Sf.dp_miss (fun j hj => hall j (by rw [List.length_map]; exact hj)))
end Go.Fip
namespace Go.Fip
open Go.RowKit
def bodyQK (P : Program) (fn : Func) (N : Nat) (w0 : World) (g : Nat) (R : Value → World → Prop) : Post
  | .normal, ds, env, w | .ret, ds, env, w => ∃ (Ds : List Nat) (φ : World → Prop) (H : List Item) (v : Value), ds = Ds.map isMark ∧ Heap (Ds.map markItem ++ ⟨g, g + 1, φ⟩ :: restL w0 g :: restR w0 g :: H) w ∧
      (∀ w', Heap (⟨g, g + 1, φ⟩ :: restL w0 g :: restR w0 g :: H) w' → Results P fn N ds env w' v) ∧ ∀ w', φ w' → R v w'
  | _, _, _, _ => False
theorem finK {P : Program} {fn : Func} {N g : Nat} {w0 w : World} {φ : World → Prop} {R : Value → World → Prop} {env : Env} {v : Value} (Ds : List Nat) (hH : Heap (⟨g, g + 1, φ⟩ :: restL w0 g :: restR w0 g :: Ds.map markItem) w)
  (hres : ∀ w', Results P fn N (Ds.map isMark) env w' v) (hR : ∀ w', φ w' → R v w') : bodyQK P fn N w0 g R .ret (Ds.map isMark) env w := by
 refine ⟨Ds, φ, [], v, rfl, hH.perm ?_, fun w' _ => hres w', hR⟩
 exact (List.perm_append_comm (l₁ := [_, _, _]))
theorem jU {P : Program} {fn : Func} {w0 : World} {g : Nat} {R : Value → World → Prop} {v : Value} {φ : World → Prop} {H : List Item} (tmps : Array Value)
  (hres : ∀ w', Heap (⟨g, g + 1, φ⟩ :: restL w0 g :: restR w0 g :: H) w' → (results fn tmps).run P w' = .ok v w') (hR : ∀ w', φ w' → R v w') : ∀ (Ds : List Nat) (w : World),
  Heap (Ds.map markItem ++ ⟨g, g + 1, φ⟩ :: restL w0 g :: restR w0 g :: H) w →
  LeavesInM Fence.wide 0 P fn tmps (fun e w' => ∃ v, e = .returned v ∧ Off g (g + 1) w0 w' ∧ ∀ w'', Agree g (g + 1) w' w'' → R v w'') (Ds.map isMark) .returning w
 | [], w, hH => by
  have hL : Agree 0 g w0 w := hH.get (n := 1) rfl
  have hRr : Agree (g + 1) w0.heap.size w0 w := hH.get (n := 2) rfl
  refine ⟨v, hres w hH, v, rfl, ⟨hL.os, hL.tape, hL.output, hL.size, fun k hk hne => ?_⟩, fun w'' ha => hR w'' ((hH.okAt (n := 0) rfl).2.2 w'' ha)⟩
  rcases Nat.lt_or_ge k g with h1 | h1
  ·exact hL.block k (Nat.zero_le _) h1
  ·exact hRr.block k (by omega) hk
 | D :: Ds, w, hH => by
  have hD : w.heap[D]? = some (.deferred (some [])) := hH.get (n := 0) rfl
  have hlt : D < w.heap.size := (Array.getElem?_eq_some_iff.1 hD).1
  refine ⟨by simp, .inl ⟨D, _, rfl, run_takeDeferred hD, ?_⟩⟩
  have h0 : Heap (Ds.map markItem ++ ⟨g, g + 1, φ⟩ :: restL w0 g :: restR w0 g :: H) (w.putObj D (.deferred none)) := by
   have := hH.set (n := 0) (i := markItem D) (j := ⟨D, D + 1, fun _ => True⟩) (w' := w.putObj D (.deferred none)) rfl (uB w D _) (.inl ⟨Nat.le_refl _, Nat.le_refl _⟩) ⟨by simp, by simp; omega, fun _ _ => trivial⟩
   exact this.sub (List.sublist_cons_self _ _)
  exact jU tmps hres hR Ds _ h0
theorem zCy {P : Program} {f : FuncId} {fn : Func} {c : Code} {args : List Value} {w : World} {g : Nat} {φ : World → Prop} {R : Value → World → Prop} {N : Nat}
    (hf : P.funcs[f]? = some fn) (hb : fn.body = some c) (hen : ∀ (aS0 : Array Value) (w' : World), (callFunc f aS0).run P w' = .ok (.enter f aS0) w')
    (hN : fn.ntmps = N) (hargs : Nat.ble args.length N = true) (hrow : (⟨g, g + 1, φ⟩ : Item).ok w)
    (h : Heap [⟨g, g + 1, φ⟩, restL w g, restR w g] w → Holds none P N c [] (argEnv 0 args) w (bodyQK P fn N w g R)) : FnM P f args.toArray w g R := by
  have hlt : g + 1 ≤ w.heap.size := hrow.2.1
  have hH : Heap [⟨g, g + 1, φ⟩, restL w g, restR w g] w := by
    refine ⟨fun i hi => ?_, ?_⟩
    · simp at hi
      rcases hi with rfl | rfl | rfl
      · exact hrow
      · exact ⟨Nat.zero_le _, by show g ≤ _; omega, fun w' h => h⟩
      · exact ⟨hlt, Nat.le_refl _, fun w' h => h⟩
    · simp [Item.apart, restL, restR]
  refine ⟨hen _, callsIn_of_wp_marks hf hb trivial ?_⟩
  have hargs' : args.length ≤ N := by simpa [Nat.ble_eq] using hargs
  refine Go.wpIn_mono (h hH { tmps := args.toArray ++ Array.replicate (fn.ntmps - args.toArray.size) undef, defers := [] } ⟨by simp [hN]; omega, rfl, fun i v hi => ?_⟩) ?_
  · have h1 : args[i]? = some v := by simpa using (jS args 0 i v hi).2
    have hlt := (List.getElem?_eq_some_iff.1 h1).1
    simp only [Array.getElem?_append, List.size_toArray, hlt, if_true, List.getElem?_toArray]
    exact h1
  · rintro e a' w' ⟨ds, env', hf', hq⟩
    cases e with
    | normal =>
      obtain ⟨Ds, φ, H, v, rfl, hH, hres, hR⟩ := hq
      show LeavesInM _ _ _ _ _ _ a'.defers _ _
      rw [hf'.defers]
      exact jU a'.tmps (fun w2 h2 => hres w2 h2 a' hf') hR Ds w' hH
    | ret =>
      obtain ⟨Ds, φ, H, v, rfl, hH, hres, hR⟩ := hq
      show LeavesInM _ _ _ _ _ _ a'.defers _ _
      rw [hf'.defers]
      exact jU a'.tmps (fun w2 h2 => hres w2 h2 a' hf') hR Ds w' hH
    | exit i => exact hq.elim
    | goto i => exact hq.elim
    | panic i => exact hq.elim
    | outgrown => exact hq.elim
section
variable {K V : Type} [DecidableEq K] {kv : K → Value} {vv : V → Value}
theorem YD {g b : Nat} {w w' : World} (hL : Agree 0 g w w') (hR : Agree (g + 1) w.heap.size w w') (hne : b ≠ g) {o : Obj} (hb : w.heap[b]? = some o) : w'.heap[b]? = some o := by
 have hlt : b < w.heap.size := (Array.getElem?_eq_some_iff.1 hb).1
 rcases Nat.lt_or_ge b g with h1 | h1
 ·exact (hL.block b (Nat.zero_le _) h1).trans hb
 ·exact (hR.block b (by omega) hlt).trans hb
theorem Mp.nowM {b g : Nat} {m : List (K × V)} {w w' : World} (h : Mp kv vv b m w) (hne : b ≠ g) (hL : Agree 0 g w w') (hR : Agree (g + 1) w.heap.size w w') : Mp kv vv b m w' := by
 obtain ⟨es, clock, h1, h2⟩ := h
 exact ⟨es, clock, YD hL hR hne h1, h2⟩
theorem Rd.nowM {α : Type} {enc : α → List Value} {sz : Nat} {v : Value} {xs : List α} {b : Nat} {m : List (K × V)} {w w' : World} (h : Rd enc sz v xs w) (hb : Mp kv vv b m w) (hL : Agree 0 b w w') (hR : Agree (b + 1) w.heap.size w w') : Rd enc sz v xs w' := by
 obtain ⟨es, clock, h1, _⟩ := hb
 refine ⟨h.1, fun i x hi j u hj => ?_⟩
 have hc := h.2 i x hi j u hj
 have hne : eb v ≠ b := fun e => by
  rw [e] at hc
  simp [World.cell?, h1] at hc
 obtain ⟨o, ho⟩ := KO hc
 have h2 := YD hL hR hne ho
 rw [← hc]
 exact World.cell?_of_block (w := w) (show w'.heap[eb v]? = w.heap[eb v]? by rw [h2, ho])
theorem Bx.neMp {b t g : Nat} {cs : List Value} {m : List (K × V)} {w : World} (h : Bx b t cs w) (hm : Mp kv vv g m w) : b ≠ g := fun e => by
 obtain ⟨es, clock, h1, _⟩ := hm
 unfold Bx at h
 rw [e, h1] at h; cases h
theorem Bx.nowK {b t g : Nat} {cs : List Value} {m : List (K × V)} {w w' : World} (h : Bx b t cs w) (hm : Mp kv vv g m w) (hL : Agree 0 g w w') (hR : Agree (g + 1) w.heap.size w w') : Bx b t cs w' := YD hL hR (h.neMp hm) h
end
end Go.Fip
namespace Go.Fip
open Go.RowKit
end Go.Fip
namespace Go.Fip
open Go.RowKit
section
variable {K V : Type} [DecidableEq K] {kv : K → Value} {vv : V → Value}
theorem WN {b : Nat} {o : Obj} {w w' : World} (h : w.heap[b]? = some o) {H : List Item} {n : Nat} (hH : Heap H w') (hn : H[n]? = some (base w)) : w'.heap[b]? = some o := by
 have hb := (hH.get hn : Below w.heap.size w w')
 rw [hb.block b (Array.getElem?_eq_some_iff.1 h).1]; exact h
def MpEx (kv : K → Value) (vv : V → Value) (F : List (K × V) → Prop) (u : Value) (w : World) : Prop := ∃ b m, u = .map (some b) ∧ Mp kv vv b m w ∧ F m
theorem Heap.toMp {n lo hi : Nat} {u : Value} {F : List (K × V) → Prop} {φ : World → Prop} {H : List Item} {w : World} (hH : Heap H w) (hn : H[n]? = some ⟨lo, hi, φ⟩) (hφ : ∀ w', φ w' → MpEx kv vv F u w') :
    ∃ b m, u = .map (some b) ∧ F m ∧ Heap (H.set n (mp kv vv b m)) w := by
  have hok := hH.okAt hn
  obtain ⟨b, m, hu, hmp, hF⟩ := hφ w hok.now
  obtain ⟨es, clock, hm, he⟩ := hmp.ents
  have hmin := Item.within hok hm (fun w' h hoth hx => by
    obtain ⟨b', m', hu', hmp', _⟩ := hφ w' h
    rw [hu] at hu'
    cases hu'
    obtain ⟨es', clock', hm', _⟩ := hmp'.ents
    rw [hm'] at hx; cases hx)
  refine ⟨b, m, hu, hF, ?_⟩
  have h2 := hH.two (i := mp kv vv b m) (j := ⟨b, b, fun _ => True⟩) hn ⟨hmin.1, hmin.2⟩ ⟨hmin.1, Nat.le_of_lt hmin.2⟩ (.inl (Nat.le_refl _)) (XT hmp)
    ⟨Nat.le_refl _, Nat.le_of_lt (Nat.lt_of_lt_of_le hmin.2 hok.2.1), fun _ _ => trivial⟩
  exact h2.sub (List.Sublist.cons _ (List.Sublist.refl _))
def MpO (kv : K → Value) (vv : V → Value) (u : Value) (m : List (K × V)) (w : World) : Prop := (u = .map none ∧ m = []) ∨ ∃ b, u = .map (some b) ∧ Mp kv vv b m w
theorem Heap.zDq (kv : K → Value) (vv : V → Value) {H : List Item} {w : World} (hH : Heap H w) : Heap (⟨w.heap.size, w.heap.size, MpO kv vv (.map none) []⟩ :: H) w :=
 hH.add (Below.refl _ w) (Nat.le_refl _) ⟨Nat.le_refl _, Nat.le_refl _, fun _ _ => .inl ⟨rfl, rfl⟩⟩
theorem Heap.zB2 {n b : Nat} {m : List (K × V)} {H : List Item} {w : World} (hH : Heap H w) (hn : H[n]? = some (mp kv vv b m)) : Heap (H.set n ⟨b, b + 1, MpO kv vv (.map (some b)) m⟩) w :=
 hH.weaken hn (fun w' h => .inr ⟨b, rfl, h⟩)
theorem Heap.zFg {n lo hi b : Nat} {u : Value} {m : List (K × V)} {H : List Item} {w : World} (hH : Heap H w) (hn : H[n]? = some ⟨lo, hi, MpO kv vv u m⟩) (hu : u = .map (some b)) : Heap (H.set n (mp kv vv b m)) w := by
  obtain ⟨b', m', e1, e2, h⟩ := hH.toMp (kv := kv) (vv := vv) (u := u) (F := fun x => x = m) hn (fun w' h => by
    rcases h with ⟨h, _⟩ | ⟨b', h, hm⟩
    · rw [hu] at h; cases h
    · exact ⟨b', m, h, hm, rfl⟩)
  rw [hu] at e1
  cases e1
  rw [e2] at h
  exact h
end
section
variable {r : Option Nat} {P : Program} {N : Nat} {ds : List Deferred} {env : Env} {w : World} {Q : Post} {all : Array Oper} {rest : List Oper} {H : List Item} {x : Operand} {d : Nat} {ty : TypeId} {pos : String} {after : Array Edge}
theorem J6 {K V : Type} [DecidableEq K] {kv : K → Value} {vv : V → Value} {MT KT ET : Nat} {z : V} {y c : Operand} (hM : MapT P MT KT ET kv vv z) {b n : Nat} {m : List (K × V)} {k : K} {v : V} (hx : ev env x = some (.map (some b))) (hy : ev env y = some (kv k)) (hc : ev env c = some (vv v)) (hH : Heap H w) (hn : H[n]? = some (mp kv vv b m))
  (h : ∀ w', Heap (H.set n (mp kv vv b (upd k v m))) w' → Ops r P N all rest ds env w' Q) :
  Ops r P N all (⟨none, .insert MT x y c, ty, pos, after, none⟩ :: rest) ds env w Q := by
 obtain ⟨w', hr, ho, hm⟩ := X0 hM (hH.get hn : Mp kv vv b m w) k v
 refine jZ (fun c hc => by cases hc) (fun a ha => .inl ?_) (h w' (hH.set hn ho (.inl ⟨Nat.le_refl _, Nat.le_refl _⟩) (XT hm)))
 simp only [execOp, ha.ev hx, ha.ev hy, ha.ev hc, Sem.run_bind, hr, Result.andThen, Sem.run_pure]
theorem G3 {MT KT ET : Nat} (hT : P.underlying MT = some (.map KT ET)) (hx : ev env x = some (.map none)) (hd : Nat.blt d N = true) (hH : Heap H w)
  (h : ∀ r0 w', Heap (raw r0 (.mapIter none 0 #[] 0) :: H) w' → Ops r P N all rest ds ((d, .pointer (some ⟨r0, 0, none⟩)) :: env) w' Q) :
  Ops r P N all (⟨some d, .range MT x, ty, pos, after, none⟩ :: rest) ds env w Q := by
 refine uJ hd (fun c hc => by cases hc) (fun a ha => ?_) (h w.heap.size (w.alloc (.mapIter none 0 #[] 0)) (hH.add (v6 w _) (Nat.le_refl _) (X1 (jJ w _))))
 simp only [execOp, ha.ev hx, Instr.range, Sem.run_bind, run_underlying hT, Result.andThen, Sem.run_pure, newObj, Sem.run]
 rfl
theorem K1 {r0 k : Nat} (hx : ev env x = some (.pointer (some ⟨r0, 0, none⟩))) (hd : Nat.blt d N = true) (hH : Heap H w) (hk : H[k]? = some (raw r0 (.mapIter none 0 #[] 0)))
  (hover : Ops r P N all rest ds ((d, .tuple #[.bool false]) :: env) w Q) :
  Ops r P N all (⟨some d, .next x false, ty, pos, after, none⟩ :: rest) ds env w Q := by
 have hr0 : w.heap[r0]? = some (.mapIter none 0 #[] 0) := hH.get hk
 have hget : (getObj r0).run P w = .ok (.mapIter none 0 #[] 0) w := by simp [getObj, Sem.run, hr0]
 refine uJ hd (fun c hc => by cases hc) (fun a ha => ?_) hover
 simp only [execOp, ha.ev hx, Instr.next, Sem.run_bind, hget, Result.andThen, Sem.run_pure]
end
end Go.Fip
namespace Go.Fip
namespace Sf
abbrev Pl := Arr 9
abbrev Cm := List (Pl × Int)
def best : Cm → Pl → Option Int
 | [], _ => none
 | p :: ps, s => if p.1 = s then some (match best ps s with | none => p.2 | some m => min p.2 m) else best ps s
theorem j3 : ∀ {ps : Cm} {s : Pl}, best ps s = none ↔ ∀ n, (s, n) ∉ ps
 | [], s => by simp [best]
 | p :: ps, s => by
  have ih := j3 (ps := ps) (s := s)
  unfold best
  by_cases h : p.1 = s
  ·rw [if_pos h]
   refine ⟨fun e => (nomatch e), fun e => absurd (show (s, p.2) ∈ p :: ps from by rw [← h]; exact List.mem_cons_self ..) (e p.2)⟩
  ·rw [if_neg h, ih]
   refine ⟨fun e n hn => ?_, fun e n hn => e n (List.mem_cons_of_mem _ hn)⟩
   rcases List.mem_cons.1 hn with h1 | h1
   ·exact h (by rw [← h1])
   ·exact e n h1
theorem uN : ∀ {ps : Cm} {s : Pl} {n : Int}, best ps s = some n ↔ (s, n) ∈ ps ∧ ∀ m, (s, m) ∈ ps → n ≤ m
 | [], s, n => by simp [best]
 | p :: ps, s, n => by
  unfold best
  by_cases h : p.1 = s
  ·rw [if_pos h]
   have hp : p = (s, p.2) := by rw [← h]
   cases hb : best ps s with
   | none =>
    have hn := j3.1 hb
    simp only [Option.some.injEq]
    constructor
    ·rintro rfl
     refine ⟨by rw [← hp]; exact List.mem_cons_self .., fun m hm => ?_⟩
     rcases List.mem_cons.1 hm with h1 | h1
     ·rw [hp] at h1; simp only [Prod.mk.injEq, true_and] at h1; omega
     ·exact absurd h1 (hn m)
    ·rintro ⟨h1, h2⟩
     rcases List.mem_cons.1 h1 with h3 | h3
     ·rw [hp] at h3; simp only [Prod.mk.injEq, true_and] at h3; exact h3.symm
     ·exact absurd h3 (hn n)
   | some k =>
    have hk := (uN (ps := ps) (s := s) (n := k)).1 hb
    simp only [Option.some.injEq]
    constructor
    ·rintro rfl
     refine ⟨?_, fun m hm => ?_⟩
     ·rcases Int.le_total p.2 k with h1 | h1
      ·rw [Int.min_eq_left h1, ← hp]; exact List.mem_cons_self ..
      ·rw [Int.min_eq_right h1]; exact List.mem_cons_of_mem _ hk.1
     ·rcases List.mem_cons.1 hm with h1 | h1
      ·rw [hp] at h1; simp only [Prod.mk.injEq, true_and] at h1; omega
      ·have := hk.2 m h1; omega
    ·rintro ⟨h1, h2⟩
     have h3 := h2 p.2 (by rw [← hp]; exact List.mem_cons_self ..)
     have h4 := h2 k (List.mem_cons_of_mem _ hk.1)
     rcases List.mem_cons.1 h1 with h5 | h5
     ·rw [hp] at h5; simp only [Prod.mk.injEq, true_and] at h5; omega
     ·have := hk.2 n h5; omega
  ·rw [if_neg h, uN (ps := ps)]
   constructor
   ·rintro ⟨h1, h2⟩
    refine ⟨List.mem_cons_of_mem _ h1, fun m hm => ?_⟩
    rcases List.mem_cons.1 hm with h3 | h3
    ·exact absurd (by rw [← h3]) h
    ·exact h2 m h3
   ·rintro ⟨h1, h2⟩
    refine ⟨?_, fun m hm => h2 m (List.mem_cons_of_mem _ hm)⟩
    rcases List.mem_cons.1 h1 with h3 | h3
    ·exact absurd (by rw [← h3]) h
    ·exact h3
theorem VU {ps qs : Cm} (h : ∀ p, p ∈ ps ↔ p ∈ qs) (s : Pl) : best ps s = best qs s := by
 cases hb : best qs s with
 | none => rw [j3] at hb ⊢; exact fun n hn => hb n ((h _).1 hn)
 | some n =>
  rw [uN] at hb ⊢
  exact ⟨(h _).2 hb.1, fun m hm => hb.2 m ((h _).1 hm)⟩
def keep (s : Pl) (n : Int) (m : Cm) : Cm := match find s m with
 | none => upd s n m
 | some v => if n < v then upd s n m else m
theorem keep_none {s : Pl} {n : Int} {m : Cm} (h : find s m = none) : keep s n m = upd s n m := by unfold keep; rw [h]
theorem keep_lt {s : Pl} {n v : Int} {m : Cm} (h : find s m = some v) (hl : n < v) : keep s n m = upd s n m := by unfold keep; rw [h]; exact if_pos hl
theorem keep_ge {s : Pl} {n v : Int} {m : Cm} (h : find s m = some v) (hl : ¬ n < v) : keep s n m = m := by unfold keep; rw [h]; exact if_neg hl
def Kp (m ps : Cm) : Prop := ∀ s, find s m = best ps s
theorem Kp.start : Kp [] [] := fun s => rfl
theorem WI {ps : Cm} {s t : Pl} {n : Int} (h : ¬ t = s) : best (ps ++ [(s, n)]) t = best ps t := by
 cases hb : best ps t with
 | none =>
  rw [j3] at hb ⊢
  intro m hm
  rcases List.mem_append.1 hm with h1 | h1
  ·exact hb m h1
  ·simp only [List.mem_singleton, Prod.mk.injEq] at h1; exact h h1.1
 | some k =>
  rw [uN] at hb ⊢
  refine ⟨List.mem_append_left _ hb.1, fun m hm => ?_⟩
  rcases List.mem_append.1 hm with h1 | h1
  ·exact hb.2 m h1
  ·simp only [List.mem_singleton, Prod.mk.injEq] at h1; exact absurd h1.1 h
theorem Kp.keep {m ps : Cm} (h : Kp m ps) (s : Pl) (n : Int) : Kp (Sf.keep s n m) (ps ++ [(s, n)]) := fun t => by
 by_cases e : t = s
 ·subst e
  have ht := h t
  cases hf : find t m with
  | none =>
   rw [keep_none hf, vL, if_pos rfl]
   rw [hf] at ht
   have hn := j3.1 ht.symm
   refine (uN.2 ⟨by simp, fun k hk => ?_⟩).symm
   rcases List.mem_append.1 hk with h1 | h1
   ·exact absurd h1 (hn k)
   ·simp only [List.mem_singleton, Prod.mk.injEq, true_and] at h1; omega
  | some v =>
   rw [hf] at ht
   have hn := uN.1 ht.symm
   by_cases hl : n < v
   ·rw [keep_lt hf hl, vL, if_pos rfl]
    refine (uN.2 ⟨by simp, fun k hk => ?_⟩).symm
    rcases List.mem_append.1 hk with h1 | h1
    ·have := hn.2 k h1; omega
    ·simp only [List.mem_singleton, Prod.mk.injEq, true_and] at h1; omega
   ·rw [keep_ge hf hl, hf]
    refine (uN.2 ⟨List.mem_append_left _ hn.1, fun k hk => ?_⟩).symm
    rcases List.mem_append.1 hk with h1 | h1
    ·exact hn.2 k h1
    ·simp only [List.mem_singleton, Prod.mk.injEq, true_and] at h1; omega
 ·rw [WI e, ← h t]
  cases hf : find s m with
  | none => rw [keep_none hf, vL, if_neg e]
  | some v =>
   by_cases hl : n < v
   ·rw [keep_lt hf hl, vL, if_neg e]
   ·rw [keep_ge hf hl]
def keeps (m : Cm) : Cm → Cm
 | [] => m
 | p :: ps => keeps (keep p.1 p.2 m) ps
theorem Kp.keeps : ∀ {ps m qs : Cm}, Kp m qs → Kp (Sf.keeps m ps) (qs ++ ps)
 | [], m, qs, h => by rw [List.append_nil]; exact h
 | p :: ps, m, qs, h => by
  have := Kp.keeps (ps := ps) (h.keep p.1 p.2)
  rw [List.append_assoc] at this
  exact this
def putP (s : Pl) (i : Nat) (x : Int) : Pl := ⟨s.1.set i x, by rw [List.length_set]; exact s.2⟩
def awayTo (x : Int) (s : Pl) (n : Int) : Nat → Cm
 | 0 => []
 | k + 1 => awayTo x s n k ++ if 0 < nth s.1 ((k : Int) + 1) then [(putP (putP s (k + 1) 0) x.toNat 1, n + 1)] else []
theorem away_t {x : Int} {s : Pl} {n : Int} {k : Nat} (h : 0 < nth s.1 ((k : Int) + 1)) : awayTo x s n (k + 1) = awayTo x s n k ++ [(putP (putP s (k + 1) 0) x.toNat 1, n + 1)] := by
 show _ ++ (if _ then _ else _) = _; rw [if_pos h]
theorem away_f {x : Int} {s : Pl} {n : Int} {k : Nat} (h : ¬ 0 < nth s.1 ((k : Int) + 1)) : awayTo x s n (k + 1) = awayTo x s n k := by
 show _ ++ (if _ then _ else _) = _; rw [if_neg h, List.append_nil]
def nx (room x : Int) (s : Pl) (n : Int) : Cm := if 0 < nth s.1 x then [(s, n)] else if sumTo s.1 9 < room then [(putP s x.toNat 1, n + 1)] else awayTo x s n 8
def fnd (m : Cm) (s : Pl) : Int := (find s m).getD 0
def prs (room x : Int) (m : Cm) (ks : List Pl) : Cm := ks.flatMap fun s => nx room x s (fnd m s)
theorem prs_snoc {room x : Int} {m : Cm} {ks : List Pl} {s : Pl} : prs room x m (ks ++ [s]) = prs room x m ks ++ nx room x s (fnd m s) := by unfold prs; rw [List.flatMap_append]; simp
def stepL (room x : Int) (m : Cm) : Cm := keeps [] (prs room x m (m.map Prod.fst))
theorem Y4 {room x : Int} {m : Cm} {ks : List Pl} {p : Pl × Int} : p ∈ prs room x m ks ↔ ∃ s ∈ ks, p ∈ nx room x s (fnd m s) := by unfold prs; simp
theorem step_of {room x : Int} {m out : Cm} {ks : List Pl} (h : Kp out (prs room x m ks)) (hp : ks.Perm (m.map Prod.fst)) (s : Pl) : find s out = find s (stepL room x m) := by
 have h2 : Kp (stepL room x m) (prs room x m (m.map Prod.fst)) := by
  have := Kp.keeps (ps := prs room x m (m.map Prod.fst)) Kp.start
  rwa [List.nil_append] at this
 rw [h s, h2 s]
 refine VU (fun p => ?_) s
 rw [Y4, Y4]
 exact ⟨fun ⟨t, ht, hp2⟩ => ⟨t, hp.mem_iff.1 ht, hp2⟩, fun ⟨t, ht, hp2⟩ => ⟨t, hp.mem_iff.2 ht, hp2⟩⟩
theorem jF {m : Cm} {s : Pl} : s ∈ m.map Prod.fst ↔ (find s m).isSome = true := by
 have := vV (k := s) (m := m)
 cases hf : find s m with
 | none => simp [this.1 hf]
 | some v => simp only [Option.isSome_some, iff_true]; exact Decidable.not_not.1 (fun hn => by rw [this.2 hn] at hf; cases hf)
def Eqv (m L : Cm) : Prop := ∀ s, find s m = find s L
theorem Eqv.step {room x : Int} {m L out : Cm} (h : Eqv m L) (ho : Eqv out (stepL room x m)) : Eqv out (stepL room x L) := fun s => by
 have h1 : Kp (stepL room x m) (prs room x m (m.map Prod.fst)) := by
  have := Kp.keeps (ps := prs room x m (m.map Prod.fst)) Kp.start
  rwa [List.nil_append] at this
 have h2 : Kp (stepL room x L) (prs room x L (L.map Prod.fst)) := by
  have := Kp.keeps (ps := prs room x L (L.map Prod.fst)) Kp.start
  rwa [List.nil_append] at this
 rw [ho s, h1 s, h2 s]
 refine VU (fun p => ?_) s
 rw [Y4, Y4]
 constructor
 ·rintro ⟨t, ht, hp⟩
  rw [jF, h t] at ht
  have e : fnd m t = fnd L t := by unfold fnd; rw [h t]
  exact ⟨t, jF.2 ht, by rwa [← e]⟩
 ·rintro ⟨t, ht, hp⟩
  rw [jF, ← h t] at ht
  have e : fnd m t = fnd L t := by unfold fnd; rw [h t]
  exact ⟨t, jF.2 ht, by rwa [e]⟩
def filt (c : Bool) (x : Int) (m : Cm) : Cm := m.filter fun p => decide (0 < nth p.1.1 x) == c
theorem jX {c : Bool} {x : Int} {s : Pl} : ∀ {m : Cm}, find s (filt c x m) = if (decide (0 < nth s.1 x) == c) = true then find s m else none
 | [] => by simp [filt, uL]
 | p :: m => by
  have ih := jX (c := c) (x := x) (s := s) (m := m)
  unfold filt at ih ⊢
  rw [List.filter_cons]
  by_cases hp : (decide (0 < nth p.1.1 x) == c) = true
  ·rw [if_pos hp, x7, x7, ih]
   by_cases e : s = p.1
   ·rw [if_pos e, if_pos e, e, if_pos hp]
   ·rw [if_neg e, if_neg e]
  ·rw [if_neg hp, ih, x7]
   by_cases e : s = p.1
   ·rw [e, if_neg hp, if_neg hp]
   ·rw [if_neg e]
theorem Eqv.filt {c : Bool} {x : Int} {m L : Cm} (h : Eqv m L) : Eqv (Sf.filt c x m) (Sf.filt c x L) := fun s => by rw [jX, jX, h s]
def Part2 (c : Bool) (x : Int) (m : Cm) (ks : List Pl) (out : Cm) : Prop := ∀ s, find s out = if s ∈ ks ∧ (decide (0 < nth s.1 x) == c) = true then find s m else none
theorem Part2.start {c : Bool} {x : Int} {m : Cm} : Part2 c x m [] [] := fun s => by simp [uL]
theorem Part2.yes {c : Bool} {x : Int} {m : Cm} {ks : List Pl} {out : Cm} (h : Part2 c x m ks out) {s : Pl} {v : Int} (hf : find s m = some v) (hc : (decide (0 < nth s.1 x) == c) = true) : Part2 c x m (ks ++ [s]) (upd s v out) := fun t => by
 rw [vL, h t]
 by_cases e : t = s
 ·subst e; rw [if_pos rfl, if_pos ⟨by simp, hc⟩, hf]
 ·rw [if_neg e]
  by_cases h1 : t ∈ ks ∧ (decide (0 < nth t.1 x) == c) = true
  ·rw [if_pos h1, if_pos ⟨by simp [h1.1], h1.2⟩]
  ·rw [if_neg h1, if_neg (fun h2 => h1 ⟨by rcases List.mem_append.1 h2.1 with h3 | h3; exact h3; exact absurd (List.mem_singleton.1 h3) e, h2.2⟩)]
theorem Part2.no {c : Bool} {x : Int} {m : Cm} {ks : List Pl} {out : Cm} (h : Part2 c x m ks out) {s : Pl} (hc : ¬ (decide (0 < nth s.1 x) == c) = true) : Part2 c x m (ks ++ [s]) out := fun t => by
 rw [h t]
 by_cases h1 : t ∈ ks ∧ (decide (0 < nth t.1 x) == c) = true
 ·rw [if_pos h1, if_pos ⟨by simp [h1.1], h1.2⟩]
 ·rw [if_neg h1, if_neg (fun h2 => h1 ⟨by rcases List.mem_append.1 h2.1 with h3 | h3; exact h3; exact absurd (List.mem_singleton.1 h3 ▸ h2.2) hc, h2.2⟩)]
theorem Part2.done {c : Bool} {x : Int} {m : Cm} {ks : List Pl} {out : Cm} (h : Part2 c x m ks out) (hp : ks.Perm (m.map Prod.fst)) : Eqv out (Sf.filt c x m) := fun s => by
 rw [h s, jX]
 by_cases h2 : (decide (0 < nth s.1 x) == c) = true
 ·rw [if_pos h2]
  by_cases h1 : s ∈ ks
  ·rw [if_pos ⟨h1, h2⟩]
  ·rw [if_neg (fun h3 => h1 h3.1)]
   exact (vV.2 (fun h3 => h1 (hp.mem_iff.2 h3))).symm
 ·rw [if_neg h2, if_neg (fun h3 => h2 h3.2)]
def lv (m : Cm) : List Pl → Int
 | [] => 1000
 | s :: ks => min (lv m ks) (fnd m s)
theorem lv_snoc {m : Cm} {s : Pl} : ∀ {ks : List Pl}, lv m (ks ++ [s]) = min (lv m ks) (fnd m s)
 | [] => rfl
 | t :: ks => by
  show min (lv m (ks ++ [s])) _ = min (min _ _) _
  rw [lv_snoc (ks := ks)]; omega
theorem VD {m : Cm} {r : Int} : ∀ {ks : List Pl}, r ≤ lv m ks ↔ r ≤ 1000 ∧ ∀ s ∈ ks, r ≤ fnd m s
 | [] => by show r ≤ 1000 ↔ _; simp
 | t :: ks => by
  show r ≤ min (lv m ks) (fnd m t) ↔ _
  rw [Int.le_min, VD (ks := ks)]
  simp only [List.mem_cons, forall_eq_or_imp]
  exact ⟨fun h => ⟨h.1.1, h.2, h.1.2⟩, fun h => ⟨⟨h.1, h.2.2⟩, h.2.1⟩⟩
def leastV (m : Cm) : Int := lv m (m.map Prod.fst)
theorem zBp {m L : Cm} {ks qs : List Pl} (h : ∀ s, s ∈ ks ↔ s ∈ qs) (he : ∀ s, fnd m s = fnd L s) : lv m ks = lv L qs := by
 refine Int.le_antisymm (VD.2 ⟨(VD.1 (Int.le_refl (lv m ks))).1, fun s hs => ?_⟩) (VD.2 ⟨(VD.1 (Int.le_refl (lv L qs))).1, fun s hs => ?_⟩)
 ·rw [← he s]; exact (VD.1 (Int.le_refl (lv m ks))).2 s ((h s).2 hs)
 ·rw [he s]; exact (VD.1 (Int.le_refl (lv L qs))).2 s ((h s).1 hs)
theorem Eqv.least {m L : Cm} (h : Eqv m L) {ks : List Pl} (hp : ks.Perm (m.map Prod.fst)) : lv m ks = leastV L := by
 refine zBp (fun s => ?_) (fun s => by unfold fnd; rw [h s])
 rw [hp.mem_iff, jF, jF, h s]
def VI (s : Pl) : Prop := ∀ i : Nat, i < 9 → 0 ≤ nth s.1 (i : Int) ∧ nth s.1 (i : Int) ≤ 1
def Cok (B : Nat) (m : Cm) : Prop := ∀ s v, find s m = some v → (0 ≤ v ∧ v ≤ B) ∧ VI s
theorem VI.int {s : Pl} (h : VI s) : ∀ i : Int, i < 9 → 0 ≤ nth s.1 i ∧ nth s.1 i ≤ 1 := fun i hi => by
 have := h i.toNat (by omega)
 have e : nth s.1 ((i.toNat : Nat) : Int) = nth s.1 i := by unfold nth; rw [Int.toNat_natCast]
 rwa [e] at this
theorem VI.put {s : Pl} (h : VI s) {i : Nat} {x : Int} (hx : 0 ≤ x ∧ x ≤ 1) : VI (putP s i x) := fun j hj => by
 rw [show (putP s i x).1 = s.1.set i x from rfl, Z7 (by rw [s.2]; exact hj)]
 split
 ·exact hx
 ·exact h j hj
theorem JT {x : Int} {s : Pl} {n : Int} (h : VI s) : ∀ {k : Nat}, ∀ p ∈ awayTo x s n k, p.2 = n + 1 ∧ VI p.1
 | 0, p, hp => by cases hp
 | k + 1, p, hp => by
  rcases List.mem_append.1 hp with h1 | h1
  ·exact JT h p h1
  ·split at h1
   ·rw [List.mem_singleton.1 h1]
    exact ⟨rfl, (h.put (by omega)).put (by omega)⟩
   ·cases h1
theorem zEe {room x : Int} {s : Pl} {n : Int} (h : VI s) : ∀ p ∈ nx room x s n, n ≤ p.2 ∧ p.2 ≤ n + 1 ∧ VI p.1 := fun p hp => by
 unfold nx at hp
 split at hp
 ·rw [List.mem_singleton.1 hp]; exact ⟨Int.le_refl _, by show n ≤ n + 1; omega, h⟩
 ·split at hp
  ·rw [List.mem_singleton.1 hp]; exact ⟨by show n ≤ n + 1; omega, Int.le_refl _, h.put (by omega)⟩
  ·have := JT h p hp; exact ⟨by omega, by omega, this.2⟩
theorem Cok.of_kp {room x : Int} {m out : Cm} {ks : List Pl} {B : Nat} (h : Cok B m) (hk : ∀ s ∈ ks, (find s m).isSome = true) (ho : Kp out (prs room x m ks)) : Cok (B + 1) out := fun s v hf => by
 rw [ho s] at hf
 obtain ⟨h1, -⟩ := uN.1 hf
 obtain ⟨t, ht, h2⟩ := Y4.1 h1
 obtain ⟨n, hn⟩ := Option.isSome_iff_exists.1 (hk t ht)
 have h3 := h t n hn
 have e : fnd m t = n := by unfold fnd; rw [hn]; rfl
 rw [e] at h2
 have h4 := zEe h3.2 _ h2
 exact ⟨⟨by have := h4.1; omega, by have := h4.2.1; simp only at this; omega⟩, h4.2.2⟩
theorem Cok.step {room x : Int} {m : Cm} {B : Nat} (h : Cok B m) : Cok (B + 1) (stepL room x m) := by
 have h2 : Kp (stepL room x m) (prs room x m (m.map Prod.fst)) := by
  have := Kp.keeps (ps := prs room x m (m.map Prod.fst)) Kp.start
  rwa [List.nil_append] at this
 exact h.of_kp (fun s hs => jF.1 hs) h2
theorem Cok.eqv {m L : Cm} {B : Nat} (h : Cok B L) (he : Eqv m L) : Cok B m := fun s v hf => h s v (by rw [← he s]; exact hf)
theorem Cok.filt {c : Bool} {x : Int} {m : Cm} {B : Nat} (h : Cok B m) : Cok B (Sf.filt c x m) := fun s v hf => by
 rw [jX] at hf
 split at hf
 ·exact h s v hf
 ·cases hf
theorem Cok.le {m : Cm} {B B' : Nat} (h : Cok B m) (hb : B ≤ B') : Cok B' m := fun s v hf => ⟨⟨(h s v hf).1.1, by have := (h s v hf).1.2; omega⟩, (h s v hf).2⟩
def zeroP : Pl := ⟨List.replicate 9 0, by simp⟩
def kdS (room : Int) (l : List Int) (want : Int) : Nat → Cm × Cm
 | 0 => ([(zeroP, 0)], [])
 | i + 1 => if (i : Int) = want then (stepL room (nth l (i : Int)) (filt true (nth l (i : Int)) (kdS room l want i).1), stepL room (nth l (i : Int)) (filt false (nth l (i : Int)) (kdS room l want i).1))
  else (stepL room (nth l (i : Int)) (kdS room l want i).1, stepL room (nth l (i : Int)) (kdS room l want i).2)
theorem kdS_t {room : Int} {l : List Int} {want : Int} {i : Nat} (h : (i : Int) = want) : kdS room l want (i + 1) = (stepL room (nth l (i : Int)) (filt true (nth l (i : Int)) (kdS room l want i).1), stepL room (nth l (i : Int)) (filt false (nth l (i : Int)) (kdS room l want i).1)) := if_pos h
theorem kdS_f {room : Int} {l : List Int} {want : Int} {i : Nat} (h : ¬ (i : Int) = want) : kdS room l want (i + 1) = (stepL room (nth l (i : Int)) (kdS room l want i).1, stepL room (nth l (i : Int)) (kdS room l want i).2) := if_neg h
theorem kdS_ok {room : Int} {l : List Int} {want : Int} : ∀ i, Cok i (kdS room l want i).1 ∧ Cok i (kdS room l want i).2
 | 0 => by
  refine ⟨fun s v hf => ?_, fun s v hf => ?_⟩
  ·have : find s [(zeroP, (0 : Int))] = some v := hf
   rw [x7, uL] at this
   split at this
   ·rename_i e
    cases this
    refine ⟨by omega, fun j hj => ?_⟩
    rw [e, show ((zeroP, (0 : Int)) : Pl × Int).1.1 = List.replicate 9 0 from rfl, Z9 hj]; omega
   ·cases this
  ·have : find s ([] : Cm) = some v := hf
   rw [uL] at this; cases this
 | i + 1 => by
  obtain ⟨h1, h2⟩ := kdS_ok (room := room) (l := l) (want := want) i
  by_cases e : (i : Int) = want
  ·rw [kdS_t e]; exact ⟨h1.filt.step, h1.filt.step⟩
  ·rw [kdS_f e]; exact ⟨h1.step, h2.step⟩
def kindV (room : Int) (l : List Int) (want : Int) : Int := if leastV (kdS room l want l.length).1 < leastV (kdS room l want l.length).2 then 0 else if leastV (kdS room l want l.length).2 < leastV (kdS room l want l.length).1 then 2 else 1
def kindR (room : Int) (l : List Int) (want : Int) : Int × Int := if ¬ ck room l = 0 then (0, ck room l) else if ¬ (0 ≤ want ∧ want ≤ (l.length : Int) - 1) then (0, 3) else (kindV room l want, 0)
theorem kindR_1 {room : Int} {l : List Int} {want : Int} (h : ¬ ck room l = 0) : kindR room l want = (0, ck room l) := if_pos h
theorem kindR_2 {room : Int} {l : List Int} {want : Int} (h : ck room l = 0) (h2 : ¬ (0 ≤ want ∧ want ≤ (l.length : Int) - 1)) : kindR room l want = (0, 3) := by unfold kindR; rw [if_neg (fun hh => hh h), if_pos h2]
theorem kindR_3 {room : Int} {l : List Int} {want : Int} (h : ck room l = 0) (h2 : 0 ≤ want ∧ want ≤ (l.length : Int) - 1) : kindR room l want = (kindV room l want, 0) := by unfold kindR; rw [if_neg (fun hh => hh h), if_neg (fun hh => hh h2)]
theorem kind_0 {room : Int} {l : List Int} {want : Int} (h : leastV (kdS room l want l.length).1 < leastV (kdS room l want l.length).2) : 0 = kindV room l want := by unfold kindV; rw [if_pos h]
theorem kind_2 {room : Int} {l : List Int} {want : Int} (h2 : leastV (kdS room l want l.length).2 < leastV (kdS room l want l.length).1) : 2 = kindV room l want := by unfold kindV; rw [if_neg (by omega), if_pos h2]
theorem kind_1 {room : Int} {l : List Int} {want : Int} (h : ¬ leastV (kdS room l want l.length).1 < leastV (kdS room l want l.length).2) (h2 : ¬ leastV (kdS room l want l.length).2 < leastV (kdS room l want l.length).1) : 1 = kindV room l want := by unfold kindV; rw [if_neg h, if_neg h2]
end Sf
end Go.Fip
namespace Go.Fip
open Go.Proofs Go.RowKit
theorem zA6 {room : Int} {v : Value} {C : List Int} (hC : C.length = 9) : ∀ w, (Instr.build 148 [(0, (.agg #[.int .i64 room, v] : Value)), (1, ag C)].toArray).run Tryz.prog w = .ok (.agg (seg [.int .i64 room, v] C [.map none]).toArray) w :=
 match C, hC with
 | [_, _, _, _, _, _, _, _, _], _ => fun w => by kernel_rfl
theorem J1 {C : List Int} (hC : C.length = 9) : ∀ w, (Instr.build 148 [(1, ag C)].toArray).run Tryz.prog w = .ok (.agg (seg [.int .i64 0, .slice none 0 0] C [.map none]).toArray) w :=
 match C, hC with
 | [_, _, _, _, _, _, _, _, _], _ => fun w => by kernel_rfl
theorem zCb {s : Sf.Pl} {n : Int} {b1 kb : Nat} {m : Sf.Cm} {w : World} (hkm : Mp (kvA (n := 9)) Sf.vvI kb m w) (k1 : Bx b1 213 [.map (some kb)] w) :
  FnM Tryz.prog 187 [(ag s.1), (.int .i64 n), (.pointer (some ⟨b1, 0, none⟩))].toArray w kb (fun u w => u = .tuple #[] ∧ Mp (kvA (n := 9)) Sf.vvI kb (Sf.keep s n m) w) := by
 refine zCy (args := [(ag s.1), (.int .i64 n), (.pointer (some ⟨b1, 0, none⟩))]) Tryz.func187 Z (ent Tryz.func187 kz Z) Z Z (XT hkm) (fun hH => ?_)
 have hs9 := s.2
 refine zr (yY (us := (ints s.1)) Z Z Z hH (fun b1 w2 hH3 => (zs (oY hH3 (zE T.XZ Z (fun _ hw => yM ((k1.nowK hkm (hw.get (n := 2) Z) (hw.get (n := 3) Z))) Z)) (oY hH3 (uD T.vS om Z (fun _ hw => Heap.xV hw (n := 0) Z)) (oY hH3 (YK (k := s) T.XI Z Z (fun _ hw => (Heap.kJ hw (n := 1) Z))) (oM hH3 Z (oY hH3 (zH Z Z) (oY hH3 (zH Z Z) (oA hH3 Z (oA hH3 Z (zs (oM hH3 Z (oY hH3 (y6 Z) (oM hH3 Z ?_)))))))))))))))
 by_cases hc4 : (!((find s m).isSome)) = true
 ·have hfn : find s m = none := by have hq := hc4; simpa using hq
  refine zD Z Z hc4 Z (zD Z Z hc4 Z (zD Z Z hc4 Z (oY hH3 (zU Z hc4 Z) (zt (zO Z Z (region (oY hH3 (zE T.XZ Z (fun _ hw => yM ((k1.nowK hkm (hw.get (n := 2) Z) (hw.get (n := 3) Z))) Z)) (oY hH3 (uD T.vS om Z (fun _ hw => Heap.xV hw (n := 0) Z)) (oM hH3 Z (uO (n := 1) (k := s) (v := n) T.XI Z Z Z hH3 Z (fun w5 hH6 => (zC (finK [] (hH6.sub (sC sR)) (fun w' => (kF Z )) (fun w' hf => ?_))))))))))))))
  first | exact ⟨rfl, by rw [Sf.keep_none hfn]; exact hf⟩ | exact ⟨rfl, by rw [Sf.keep_lt hv0 (by omega)]; exact hf⟩ | exact ⟨rfl, by rw [Sf.keep_ge hv0 (by omega)]; exact hf⟩
 have hfs : (find s m).isSome = true := by have hq := (Bool.eq_false_iff.2 hc4); simpa using hq
 obtain ⟨v0, hv0⟩ := Option.isSome_iff_exists.1 hfs
 have hgd : (find s m).getD 0 = v0 := by rw [hv0]; rfl
 refine zB Z Z (Bool.eq_false_iff.2 hc4) (oM hH3 Z (zB Z Z (Bool.eq_false_iff.2 hc4) (oM hH3 Z (zB Z Z (Bool.eq_false_iff.2 hc4) (oY hH3 (yL Z Z) (oY hH3 (zT Z (Bool.eq_false_iff.2 hc4) Z) (zt ?_)))))))
 by_cases hc8 : n < ((find s m).getD 0)
 ·have hlt : n < (find s m).getD 0 := by have hq := (decide_eq_true hc8); simpa using hq
  refine zO Z (dT hc8) (region (oY hH3 (zE T.XZ Z (fun _ hw => yM ((k1.nowK hkm (hw.get (n := 2) Z) (hw.get (n := 3) Z))) Z)) (oY hH3 (uD T.vS om Z (fun _ hw => Heap.xV hw (n := 0) Z)) (oM hH3 Z (uO (n := 1) (k := s) (v := n) T.XI Z Z Z hH3 Z (fun w9 hH10 => (zC (finK [] (hH10.sub (sC sR)) (fun w' => (kF Z )) (fun w' hf => ?_)))))))))
  first | exact ⟨rfl, by rw [Sf.keep_none hfn]; exact hf⟩ | exact ⟨rfl, by rw [Sf.keep_lt hv0 (by omega)]; exact hf⟩ | exact ⟨rfl, by rw [Sf.keep_ge hv0 (by omega)]; exact hf⟩
 have hge : ¬ n < (find s m).getD 0 := by have hq := (decide_eq_false hc8); simpa using hq
 refine zL Z (dF hc8) (skip (finK [] (hH3.sub (sC sR)) (fun w' => (kF Z )) (fun w' hf => ?_)))
 first | exact ⟨rfl, by rw [Sf.keep_none hfn]; exact hf⟩ | exact ⟨rfl, by rw [Sf.keep_lt hv0 (by omega)]; exact hf⟩ | exact ⟨rfl, by rw [Sf.keep_ge hv0 (by omega)]; exact hf⟩
end Go.Fip
