/- Joined texts: what the statement needs, walks by program (wip/tools). -/
import Derived.Test.YtdpgihdhilmfjaaGreatA4
import Derived.Test.YtdpgihdhilmfjaaGreatA1
import Derived.Test.YtdpgihdhilmfjaaGreatA2
import Derived.Test.YtdpgihdhilmfjaaGreatA3
set_option linter.unusedVariables false
set_option linter.unusedSimpArgs false
set_option linter.unusedSectionVars false
set_option linter.unnecessarySimpa false
namespace Go.Fip
open Go.RowKit
section
variable {K V : Type} [DecidableEq K] {MT KT ET : Nat} {kv : K → Value} {vv : V → Value} {z : V}
variable {r : Option Nat} {P : Program} {N : Nat} {ds : List Deferred} {env : Env} {w : World} {Q : Post} {all : Array Oper} {rest : List Oper} {H : List Item} {x y c : Operand} {S : World → Prop}
  {d : Nat} {ty : TypeId} {pos : String} {after : Array Edge}
theorem WX {ty' : TypeId} (hM : MapT P MT KT ET kv vv z) {b clock : Nat} {es : Array MapEntry} {m : List (K × V)} (hb : w.heap[b]? = some (.map es clock)) (he : Ents kv vv es clock m) (k : K) :
  ∃ es', (Builtin.delete_ #[MT, KT] ty' #[.map (some b), kv k]).run P w = .ok (.tuple #[]) (w.putObj b (.map es' clock)) ∧ Ents kv vv es' clock (del k m) ∧ es'.toList.Sublist es.toList := by
 obtain ⟨h2, h3, h4, h5⟩ := he
 have h1 := hb
 have hf := jL (w := w) hM k es.toList m h2
 have hlt := (Array.getElem?_eq_some_iff.1 h1).1
 cases hx : findI k m 0 with
 | none =>
  rw [hx] at hf
  simp only [Option.map_none] at hf
  have hnm := j7 hx
  have hdel : del k m = m := by
   clear h2 h3 hf hx
   induction m with
   | nil => rfl
   | cons p m ih =>
    simp only [List.map_cons, List.mem_cons, not_or] at hnm
    simp [del, hnm.1, ih hnm.2]
  refine ⟨es, ?_, ⟨by rw [hdel]; exact h2, by rw [hdel]; exact h3, h4, h5⟩, List.Sublist.refl _⟩
  simp [Builtin.delete_, run_underlying hM.und, vK h1, hM.ck, hf, qD _ h1, Result.andThen]
 | some p =>
  obtain ⟨j, u⟩ := p
  rw [hx] at hf
  simp only [Option.map_some] at hf
  obtain ⟨a, hb, hc, _, hd⟩ := jY (v := u) (val := vv u) h2 hx
  simp only [Nat.sub_zero] at hb hc hd
  have hes : (es.eraseIdxIfInBounds j).toList = es.toList.eraseIdx j := by
   simp only [Array.eraseIdxIfInBounds]
   split
   ·simp
   ·rename_i hge; exact absurd (by simpa using hb) hge
  refine ⟨es.eraseIdxIfInBounds j, ?_, ⟨by rw [hes]; exact hd, h3.sublist (jS k m), ?_, ?_⟩, by rw [hes]; exact List.eraseIdx_sublist _ _⟩
  ·simp [Builtin.delete_, run_underlying hM.und, vK h1, hM.ck, hf, qD _ h1, Result.andThen]
  ·rw [hes]; exact h4.sublist ((List.eraseIdx_sublist _ _).map _)
  ·intro e he
   rw [hes] at he
   exact h5 e ((List.eraseIdx_sublist _ _).subset he)
theorem GV (hM : MapT P MT KT ET kv vv z) {b n clock : Nat} {es : Array MapEntry} {m : List (K × V)} {k : K} (he : Ents kv vv es clock m) (hx : ev env x = some (.map (some b))) (hy : ev env y = some (kv k)) (hH : Heap H w) (hn : H[n]? = some (raw b (.map es clock)))
  (h : ∀ es' w', Ents kv vv es' clock (del k m) → es'.toList.Sublist es.toList → Heap (H.set n (raw b (.map es' clock))) w' → Ops r P N all rest ds env w' Q) :
  Ops r P N all (⟨none, .call ⟨.builtin .delete, #[x, y], #[MT, KT]⟩, ty, pos, after, none⟩ :: rest) ds env w Q := by
 have hb : w.heap[b]? = some (.map es clock) := hH.get hn
 obtain ⟨es', h1, h2, h3⟩ := WX (P := P) (ty' := ty) hM hb he k
 have hlt := (Array.getElem?_eq_some_iff.1 hb).1
 refine jR (fun c hc => by cases hc) (fun a ha => .inr ⟨.tuple #[], ?_⟩) (h es' _ h2 h3 (hH.set hn (vZ w b _) (.inl ⟨Nat.le_refl _, Nat.le_refl _⟩) (Z6 (World.putObj_heap_same hlt))))
 simp only [execOp, resolve, invoke, builtin, Sem.run_bind, Sem.run_pure, Result.andThen, List.map_toArray, List.map_cons, List.map_nil, ha.ev hx, ha.ev hy, h1]
end
section
variable {K V : Type} [DecidableEq K] {kv : K → Value} {vv : V → Value}
theorem Ents.mp {es : Array MapEntry} {clock b : Nat} {m : List (K × V)} {w : World} (h : Ents kv vv es clock m) (hb : w.heap[b]? = some (.map es clock)) : Mp kv vv b m w := ⟨es, clock, hb, h.views, h.nd, h.bornNd, h.born⟩
theorem Mp.ents {b : Nat} {m : List (K × V)} {w : World} (h : Mp kv vv b m w) : ∃ es clock, w.heap[b]? = some (.map es clock) ∧ Ents kv vv es clock m := by
 obtain ⟨es, clock, h1, h2, h3, h4, h5⟩ := h
 exact ⟨es, clock, h1, ⟨h2, h3, h4, h5⟩⟩
end
end Go.Fip
namespace Go.Fip
open Go.RowKit
theorem Heap.two {H : List Item} {w : World} (hH : Heap H w) {n : Nat} {x i j : Item} (hn : H[n]? = some x) (hi : x.lo ≤ i.lo ∧ i.hi ≤ x.hi) (hj : x.lo ≤ j.lo ∧ j.hi ≤ x.hi) (hij : j.apart i) (oi : i.ok w) (oj : j.ok w) : Heap (j :: H.set n i) w := by
 have h1 := hH.set hn ⟨rfl, rfl, rfl, Nat.le_refl _, fun _ _ _ => rfl⟩ (.inl hi) oi
 refine ⟨fun y hy => ?_, List.Pairwise.cons (fun y hy => ?_) h1.apart⟩
 ·rcases List.mem_cons.1 hy with rfl | hy
  ·exact oj
  ·exact h1.ok y hy
 ·obtain ⟨m, hm, e⟩ := List.getElem_of_mem hy
  obtain ⟨hn1, hn2⟩ := List.getElem?_eq_some_iff.1 hn
  rw [List.length_set] at hm
  rw [List.getElem_set] at e
  split at e
  ·subst e; exact hij
  ·rename_i hne
   have hap : x.apart y := by
    have hp := List.pairwise_iff_getElem.1 hH.apart
    rcases Nat.lt_or_gt_of_ne hne with h2 | h2
    ·have := hp n m hn1 hm h2
     rwa [hn2, e] at this
    ·have := hp m n hm hn1 h2
     rw [hn2, e] at this
     exact this.symm
   unfold Item.apart at *
   omega
end Go.Fip
namespace Go.Fip
section
variable {K V : Type} [DecidableEq K] {kv : K → Value} {vv : V → Value}
def BnEx (kv : K → Value) (vv : V → Value) (F : List (K × V) → Prop) (t b : Nat) (pre : List Value) (C : List Int) (w : World) : Prop := ∃ mb m, Bx b t (seg pre C [.map (some mb)]) w ∧ Mp kv vv mb m w ∧ F m
theorem Heap.X4 {t n lo hi b : Nat} {pre : List Value} {C : List Int} {F : List (K × V) → Prop} {φ : World → Prop} {H : List Item} {w : World} (hH : Heap H w) (hn : H[n]? = some ⟨lo, hi, φ⟩) (hφ : ∀ w', φ w' → BnEx kv vv F t b pre C w') :
    ∃ mb m, F m ∧ Heap (mp kv vv mb m :: H.set n (bx b t (seg pre C [.map (some mb)]))) w := by
  have hok := hH.okAt hn
  obtain ⟨mb, m, hbx, hmp, hF⟩ := hφ w hok.now
  obtain ⟨es, clock, hm, he⟩ := hmp.ents
  have hbin := Item.within hok hbx (fun w' h _ hx => by
    obtain ⟨_, _, hb', _⟩ := hφ w' h
    unfold Bx at hb'
    rw [hb'] at hx; cases hx)
  have hmb : mb ≠ b := fun e => by
    unfold Bx at hbx
    rw [e, hbx] at hm; cases hm
  have hmin := Item.within hok hm (fun w' h hoth hx => by
    obtain ⟨mb', m', hb', hmp', _⟩ := hφ w' h
    obtain ⟨es', clock', hm', _⟩ := hmp'.ents
    have h5 := hoth b (fun e => hmb e.symm)
    unfold Bx at hb' hbx
    rw [hb', hbx] at h5
    simp [seg] at h5
    rw [h5] at hm'
    rw [hm'] at hx; cases hx)
  refine ⟨mb, m, hF, hH.two hn ⟨hbin.1, hbin.2⟩ ⟨hmin.1, hmin.2⟩ ?_ (VA hbx) (XO hmp)⟩
  unfold Item.apart bx mp
  simp only
  omega
end
end Go.Fip
namespace Go.Fip
open Go.RowKit
theorem zA5 {P : Program} {N : Nat} {ds : List Deferred} {env : Env} {S : World → Prop} {x : Operand} {T n E sz b o : Nat} (hT : TArr P T n E sz) (hx : ev env x = some (.pointer (some ⟨b, o, none⟩))) : Yv P N ds env (.slice T x none none none) (.slice (some ⟨b, o, none⟩) n n) S := fun a ha w _ _ _ _ _ _ => by
 have e : (⟨b, o, none⟩ : Addr).add 0 = ⟨b, o, none⟩ := by unfold Addr.add; split <;> rfl
 simp [execOp, ha.ev hx, Instr.sliceAt, run_underlying hT.1, Instr.sliceBounds, vL hT.2, Result.andThen, Instr.sureAddr, asAddr, e]
theorem GH {r : Option Nat} {P : Program} {N : Nat} {ds : List Deferred} {env : Env} {w : World} {Q : Post} {all : Array Oper} {rest : List Oper} {H : List Item} {x : Operand} {dst : Option Nat} {ty : TypeId} {pos : String} {after : Array Edge}
  {T E n m b t o : Nat} {pre post : List Value} {C : List Int} (hE : El P T E 1 encI) (hz0 : ∀ i, P.info? E = some i → i.zero.map (·.cells.toList) = some (encI 0)) (hs : ev env x = some (.slice (some ⟨b, o, none⟩) m m)) (ho : o = pre.length) (hm : C.length = m) (hm0 : 0 < m) (hd : dstOK N dst = true) (hH : Heap H w)
  (hn : H[n]? = some (bx b t (seg pre C post))) (h : ∀ w', Heap (H.set n (bx b t (seg pre (List.replicate m 0) post))) w' → Ops r P N all rest ds (putE dst (.tuple #[]) env) w' Q) :
  Ops r P N all (⟨dst, .call ⟨.builtin .clear, #[x], #[T]⟩, ty, pos, after, none⟩ :: rest) ds env w Q := by
 subst ho
 obtain ⟨i, z, hi1, hz, hsz, hby, hzs⟩ := hE.info
 have hzc := hz0 i hi1
 rw [hz] at hzc
 simp only [Option.map_some, Option.some.injEq] at hzc
 have hb : w.heap[b]? = some (.cells (seg pre C post).toArray t (0, 0)) := hH.get hn
 have hzl : (Builtin.zeroCells z.cells m).toList = ints (List.replicate m 0) := by
  have := qC hE.len hE.pos hzc m
  have e : (List.replicate m (0 : Int)).flatMap encI = ints (List.replicate m 0) := by
   unfold ints encI; rw [← List.map_eq_flatMap]
  rw [← e, ← this]
  simp [Builtin.zeroCells, madeCells, hzs]
 have hst := run_storeCells_at (P := P) b pre.length t (ints (List.replicate m 0)) 0 (seg pre C post).toArray w hb (by simp [KU, vD, hm]) (fun u hu => List.all_eq_true.1 WN u hu)
 have hnew : ((seg pre C post).toArray.toList.take (pre.length + 0) ++ ints (List.replicate m 0) ++ (seg pre C post).toArray.toList.drop (pre.length + 0 + (ints (List.replicate m 0)).length)).toArray = (seg pre (List.replicate m 0) post).toArray := by
  congr 1
  unfold seg
  simp only [Nat.add_zero, List.take_left, vD, List.length_replicate]
  rw [← List.drop_drop, List.drop_left, List.drop_left' (by rw [vD]; exact hm), List.append_assoc]
 rw [hnew] at hst
 have hzv : (zeroValue E).run P w = .ok z w := by simp [zeroValue, typeInfo, hi1, hz, Result.andThen]
 have hcl : (Builtin.clear_ #[T] ty #[.slice (some ⟨b, pre.length, none⟩) m m]).run P w = .ok (.tuple #[]) (w.setRow b (seg pre (List.replicate m 0) post).toArray) := by
  obtain ⟨k, rfl⟩ : ∃ k, m = k + 1 := ⟨m - 1, by omega⟩
  unfold Builtin.clear_
  simp [run_underlying hE.und, hzv, hzl, hst, Result.andThen]
 refine qS hd (fun c hc => by cases hc) (fun a ha => ?_) (h _ (hH.set hn (uT w b _) (.inl ⟨Nat.le_refl _, Nat.le_refl _⟩) (VA (setRow_heap w b _ _ t (0, 0) hb))))
 simp only [execOp, resolve, invoke, builtin, Sem.run_bind, Sem.run_pure, Result.andThen, List.map_toArray, List.map_cons, List.map_nil, ha.ev hs, hcl]
end Go.Fip
namespace Go.Fip
open Go.Proofs Go.RowKit
theorem zAk {l : List Int} {i k : Nat} (h : k < i) (hi : i < l.length) : nth (l.take (i : Int).toNat) (k : Int) = nth l (k : Int) := by
 rw [Int.toNat_natCast, yJ (by rw [List.length_take]; omega), yJ (by omega), List.getElem_take]
theorem zE0 {v : Value} {l : List Int} {room : Int} {w : World} (h0 : Rd encI 1 v l w) (hd : Sf.Day room l)  :
  Fn Tryz.prog 144 [(.agg #[(.int .i64 room), v])].toArray w (fun u w => ∃ bb : Nat, u = .pointer (some ⟨bb, 0, none⟩) ∧ BnEx Sf.kvS Sf.vvI (Sf.Full l) 148 bb [.int .i64 room, v] (List.replicate 9 0) w) := by
 refine fz Tryz.func144 Z kz Z Z (fun hH => ?_)
 have hn := hd.n
 have hr9 : (List.replicate 9 (0 : Int)).length = 9 := rfl
 refine zr (yW Z Z Z hH (fun b1 w2 hH3 => (oA hH3 Z (zs (zA hH3 Z Z (zW (cs := [(.int .i64 room), v]) T.xZ Z Z (fun _ hw => Heap.yI hw (n := 0) Z (k := 0) Z)) (v6 Sf.kvS Sf.vvI Z hH3 (fun b4 w5 hH6 => (zA hH6 Z Z (yS (v := (.agg #[(.int .i64 room), v, (.int .i64 0), (.int .i64 0), (.int .i64 0), (.int .i64 0), (.int .i64 0), (.int .i64 0), (.int .i64 0), (.int .i64 0), (.int .i64 0), (.map (some b4))])) Z (fun w => by kernel_rfl)) (yW Z Z Z hH6 (fun b7 w8 hH9 => (oA hH9 Z (zt (seq ?_)))))))))))))
 have hH10 := Heap.xA hH9 (n := 0) Z (show [(.int .i64 room), v, (.int .i64 0), (.int .i64 0), (.int .i64 0), (.int .i64 0), (.int .i64 0), (.int .i64 0), (.int .i64 0), (.int .i64 0), (.int .i64 0), (.map (some b4))] = (seg [(.int .i64 room), v] (List.replicate 9 0) [(.map (some b4))]) from Z)
 refine region (oM hH10 Z (zA hH10 Z Z (yQ Z) (zA hH10 Z Z (zJ T.uZ Z) (zA hH10 Z Z (zA5 T.jZ Z) (GH (n := 0) T.zC T.uO Z Z (by simp) om Z hH10 Z (fun w11 hH12 => (zt (seq (zr (oM hH12 Z (zA hH12 Z Z (yQ Z) (zA hH12 Z Z (zJ T.vX Z) (zA hH12 Z Z (zJ T.vP Z) (zA hH12 Z Z (xV T.xK Z (by rfl) Z (fun _ hw => (Heap.xS hw (n := 0) Z))) (zA hH12 Z Z (yA T.yV Z (h0.now hH12 (n := 3) Z).is) (oM hH12 Z (zt (block (loop (S := Nat × Sf.Mm) (fun (i, m) => [(23, (.int .i64 (i : Int))), (2, (.pointer none)), (3, (.pointer (some ⟨b7, 0, none⟩))), (21, v), (22, (.int .i64 (l.length : Int)))]) (fun (i, m) w1 => Heap [bx b7 148 (seg [(.int .i64 room), v] (List.replicate 9 0) [(.map (some b4))]), mp Sf.kvS Sf.vvI b4 m, bx b1 51 [(.int .i64 room), v], base w] w1 ∧ i ≤ l.length ∧ Sf.Part l i 0 m) (fun (i, m) => l.length - i) (0, []) (uC Z (uC Z (uC Z (uC Z (uC Z (Sub.nil _)))))) ?_ ?_)))))))))))))))))))
 ·exact ⟨hH12, by omega, Sf.Part.start⟩
 rintro ⟨i, m⟩ w13 ⟨hH14, hi, hP⟩
 refine zr (zA hH14 Z Z (yK Z Z) (zt (seq ?_)))
 by_cases hc15 : (i : Int) < (l.length : Int)
 ·refine zO Z (dT hc15) (skip (zP (seq (block (zr (oM hH14 Z (zA hH14 Z Z (zS T.yV Z Z (h0.now hH14 (n := 3) Z).is om) (zA hH14 Z Z (zF T.yU Z (fun _ hw => Rd.at (h0.now hw (n := 3) Z) (i := (i : Int)) om (j := 0) Z)) (oA hH14 Z (oA hH14 Z (zt (seq ?_))))))))))))
  have htl : (l.take (i : Int).toNat).length = i := by rw [List.length_take]; omega
  refine region (oM hH14 Z (zA hH14 Z Z (yQ Z) (zA hH14 Z Z (zJ T.vX Z) (zA hH14 Z Z (zJ T.vP Z) (zA hH14 Z Z (xV T.xK Z (by rfl) Z (fun _ hw => (Heap.xS hw (n := 0) Z))) (oM hH14 Z (zA hH14 Z Z (qZ T.yV Z Z (h0.now hH14 (n := 3) Z).is om) (zA hH14 Z Z (yA T.yV Z (Rd.upto (h0.now hH14 (n := 3) Z) (hi := (i : Int).toNat) om).is) (oM hH14 Z (zt (block (loop (S := Nat × Sf.Mm) (fun (k, m2) => [(36, (.int .i64 (k : Int))), (2, (.pointer none)), (3, (.pointer (some ⟨b7, 0, none⟩))), (4, (.int .i64 (i : Int))), (5, (.int .i64 (nth l (i : Int)))), (21, v), (22, (.int .i64 (l.length : Int))), (23, (.int .i64 (i : Int))), (34, (cutv v 1 0 (i : Int).toNat)), (35, (.int .i64 ((l.take (i : Int).toNat).length : Int)))]) (fun (k, m2) w1 => Heap [bx b7 148 (seg [(.int .i64 room), v] (List.replicate 9 0) [(.map (some b4))]), mp Sf.kvS Sf.vvI b4 m2, bx b1 51 [(.int .i64 room), v], base w] w1 ∧ k ≤ i ∧ Sf.Part l i k m2) (fun (k, m2) => i - k) (0, m) (uC Z (uC Z (uC Z (uC Z (uC Z (uC Z (uC Z (uC Z (uC Z (uC Z (Sub.nil _))))))))))) ?_ ?_))))))))))))
  ·exact ⟨hH14, by omega, hP⟩
  rintro ⟨k, m2⟩ w16 ⟨hH17, hk, hp2⟩
  refine zr (zA hH17 Z Z (yK Z Z) (zt (seq ?_)))
  by_cases hc18 : (k : Int) < ((l.take (i : Int).toNat).length : Int)
  ·refine zO Z (dT hc18) (skip (zP (seq (block (seq ?_)))))
   have hnt := zAk (l := l) (i := i) (k := k) (by omega) (by omega)
   refine region (oM hH17 Z (zA hH17 Z Z (zS T.yV Z Z (Rd.upto (h0.now hH17 (n := 3) Z) (hi := (i : Int).toNat) om).is om) (zA hH17 Z Z (zF T.yU Z (fun _ hw => Rd.at (Rd.upto (h0.now hw (n := 3) Z) (hi := (i : Int).toNat) om) (i := (k : Int)) om (j := 0) Z)) (oA hH17 Z (oA hH17 Z (zs (oM hH17 Z (oM hH17 Z (zA hH17 Z Z (y6 Z Z) (zt ?_))))))))))
   by_cases hc19 : (nth l (i : Int)) = (nth (l.take (i : Int).toNat) (k : Int))
   ·have heq : nth l (k : Int) = nth l (i : Int) := by have hq := (decide_eq_true hc19); omega
    refine zO Z (dT hc19) (region (oM hH17 Z (zA hH17 Z Z (yQ Z) (zA hH17 Z Z (zJ T.XZ Z) (zA hH17 Z Z (qE (m := 9) (j := 0) T.ZB Z (by first | omega | (simp only [List.length_set]; omega)) (by rfl) Z (fun _ hw => (Heap.xS hw (n := 0) Z))) (oM hH17 Z (oM hH17 Z (zA hH17 Z Z (yS (v := (.agg #[(.int .i64 (k : Int)), (.int .i64 (i : Int))])) Z (fun w => by kernel_rfl)) (oM hH17 Z (uJ (n := 1) (k := (((k : Int), (i : Int)) : Int × Int)) (v := nth l (i : Int)) T.K8 Z Z Z hH17 Z (fun w20 hH21 => (zD (yB (zP (region (zA hH21 Z Z (zX Z Z om) (oM hH21 Z (zD (yY (k + 1, (upd (((k : Int), (i : Int)) : Int × Int) (nth l (i : Int)) m2)) (uC Z (uC Z (uC Z (uC Z (uC Z (uC Z (uC Z (uC Z (uC Z (uC Z (Sub.nil _))))))))))) ?_ ?_)))))))))))))))))))
    ·exact ⟨hH21, by omega, hp2.yes om om heq Z⟩
    ·first | (dsimp only; omega) | (show _ < _; omega)
   have hne : ¬ nth l (k : Int) = nth l (i : Int) := by have hq := (decide_eq_false hc19); omega
   refine zM Z (dF hc19) (skip (yB (zP (region (zA hH17 Z Z (zX Z Z om) (oM hH17 Z (zD (yY (k + 1, m2) (uC Z (uC Z (uC Z (uC Z (uC Z (uC Z (uC Z (uC Z (uC Z (uC Z (Sub.nil _))))))))))) ?_ ?_))))))))
   ·exact ⟨hH17, by omega, hp2.no hne⟩
   ·first | (dsimp only; omega) | (show _ < _; omega)
  refine zM Z (dF hc18) (exit (yX (xF (z7 (yB (zP (region (zA hH17 Z Z (zX Z Z om) (oM hH17 Z (zD (yY (i + 1, m2) (uC Z (uC Z (uC Z (uC Z (uC Z (Sub.nil _)))))) ?_ ?_)))))))))))
  ·exact ⟨hH17, by omega, (show Sf.Part l i i m2 from (show k = i by omega) ▸ hp2).turn⟩
  ·first | (dsimp only; omega) | (show _ < _; omega)
 refine zM Z (dF hc15) (exit (yX (xF (z7 (zP (seq (seq ?_)))))))
 have hpt9 : Sf.Part l l.length 0 m := (show i = l.length by omega) ▸ hP
 refine region (oM hH14 Z (zA hH14 Z Z (yQ Z) (zA hH14 Z Z (zJ T.XZ Z) (zA hH14 Z Z (qE (m := 9) (j := 0) T.ZB Z (by first | omega | (simp only [List.length_set]; omega)) (by rfl) Z (fun _ hw => (Heap.xS hw (n := 0) Z))) ?_))))
 obtain ⟨es, clock, hH22, hv1, hv2, hv3, hv4⟩ := Heap.Y3 hH14 (n := 1) rfl
 have hents : Ents Sf.kvS Sf.vvI es clock m := ⟨hv1, hv2, hv3, hv4⟩
 refine jB T.K8.und Z Z hH22 (Heap.jC hH22 (n := 1) Z) (fun r23 w24 hH25 => (zt (block (loop (S := Array MapEntry × Sf.Mm × Array Nat) (fun (es2, m3, seen) => [(2, (.pointer none)), (3, (.pointer (some ⟨b7, 0, none⟩))), (58, (.pointer (some ⟨r23, 0, none⟩)))]) (fun (es2, m3, seen) w1 => Heap [raw r23 (.mapIter (some b4) clock seen clock), bx b7 148 (seg [(.int .i64 room), v] (List.replicate 9 0) [(.map (some b4))]), raw b4 (.map es2 clock), bx b1 51 [(.int .i64 room), v], base w] w1 ∧ Sf.Outs l es2 clock m3 seen) (fun (es2, m3, seen) => unseen es2 seen) (es, m, #[]) (uC Z (uC Z (uC Z (Sub.nil _)))) ?_ ?_))))
 ·exact ⟨hH25, Sf.Outs.start hents hpt9⟩
 rintro ⟨es2, m3, seen⟩ w26 ⟨hH27, hO⟩
 refine zr (j0 Z Z hH27 (Heap.jC hH27 (n := 2) Z) (k := 0) Z hO.ents.born (fun hall28 w32 hH33 => ?_) (fun e29 he30 hns31 w32 hH33 => ?_))
 ·have hfull := hO.full hall28
  refine zA hH33 Z Z (zI Z Z) (zt (seq (zM Z Z (exit (yX (xF (z7 (zu (oM hH33 Z (oA hH33 Z (zt (ret ?_))))))))))))
  have hH34 := (hH33.sub (sC (sK (sK (sC sR)))))
  refine fin (hH34.front (n := 2) Z) (fun w' hf => (yN Z (rt Z))) (fun w' hf => ?_)
  exact ⟨_, Z, _, _, Heap.xS hf (n := 0) Z, hO.ents.mp (Heap.jC hf (n := 1) Z), hfull⟩
 obtain ⟨ai, ak, hkey, ⟨xv, hval⟩, hak1, hak2⟩ := hO.entry he30
 have hns := hns31
 have hen := he30
 refine zA hH33 Z Z (zI Z Z) (zt (seq (zO Z Z (skip (zP (block (zr (zA hH33 Z Z (qL hkey hval Z he30 hO.ents.bornNd (fun _ hw => (Heap.jC hw (n := 2) Z)) (fun _ hw => Heap.jC hw (n := 0) Z)) (zA hH33 Z Z (zI Z Z) (yC (z := (.agg #[(.int .i64 0), (.int .i64 0)])) (fun _ => by kernel_rfl) Z Z hH33 (fun b35 w36 hH37 => (zU (n := 0) (j := 0) Z Z hH37 Z T.GB Z Z Z (by rfl) (fun w38 hH39 => (zt (seq ?_)))))))))))))))
 have hbl : ((l.take (ak : Int).toNat).drop ((ai : Int) + 1).toNat).length ≤ 1000000 := by rw [List.length_drop, List.length_take]; omega
 refine zZ (fun w' => Heap [bx b35 212 [(.int .i64 (ai : Int)), (.int .i64 (ak : Int))], raw r23 (.mapIter (some b4) clock (seen.push e29.born) clock), bx b7 148 (seg [(.int .i64 room), v] (List.replicate 9 0) [(.map (some b4))]), raw b4 (.map es2 clock), bx b1 51 [(.int .i64 room), v], base w] w') T.mixed (fun w40 hr41 => ?_)
 have hH42 := hH39.redrawn hr41
 refine zK [0, 1, 2, 3, 4, 5, 6, 7, 8, 9, 10, 11, 12, 13, 14, 15, 16, 17, 18, 19] kz hH42 _ _ _ kz (qM Z Z Z (zL Z Z (yQ Z) (zL Z Z (zJ T.vX Z) (zL Z Z (zJ T.vP Z) (zL Z Z (xV T.xK Z (by rfl) Z (fun _ hw => (Heap.xS hw (n := 2) Z))) (zL Z Z (zJ T.XW Z) (zL Z Z (zF T.yU Z (cw (n := 0) Z Z)) (zL Z Z (zX Z Z om) (zL Z Z (zJ T.ZF Z) (zL Z Z (zF T.yU Z (cw (n := 0) Z Z)) (zL Z Z (ZH T.yV Z Z Z (h0.now hH42 (n := 5) Z).is om) (qM Z Z Z (zL Z Z (yQ Z) (zL Z Z (zJ T.vX Z) (zL Z Z (zJ T.vP Z) (zL Z Z (xV T.xK Z (by rfl) Z (fun _ hw => (Heap.xS hw (n := 2) Z))) (zL Z Z (zJ T.ZF Z) (zL Z Z (zF T.yU Z (cw (n := 0) Z Z)) (zL Z Z (zS T.yV Z Z (h0.now hH42 (n := 5) Z).is om) (zL Z Z (zF T.yU Z (fun _ hw => Rd.at (h0.now hw (n := 5) Z) (i := (ak : Int)) om (j := 0) Z)) (zV ?_)))))))))))))))))))))
 refine z1 20 kz Z (zN Z Z Z hH42 (zA2 (Rd.cut (h0.now hH42 (n := 5) Z) (lo := ((ai : Int) + 1).toNat) (hi := (ak : Int).toNat) om om) om) (fun w43 hH44 => (zD (⟨hH44, (zY kz (zP ?_))⟩))))
 by_cases hc45 : 0 ≤ S.place ((l.take (ak : Int).toNat).drop ((ai : Int) + 1).toNat) (nth l (ak : Int))
 ·have hbt : Sf.btw l (ai : Int) (ak : Int) := of_decide_eq_true (decide_eq_true hc45)
  refine zO Z (dT hc45) (zZ (fun w' => Heap [bx b35 212 [(.int .i64 (ai : Int)), (.int .i64 (ak : Int))], raw r23 (.mapIter (some b4) clock (seen.push e29.born) clock), bx b7 148 (seg [(.int .i64 room), v] (List.replicate 9 0) [(.map (some b4))]), bx b1 51 [(.int .i64 room), v], base w] w') T.mixed (fun w46 hr47 => ?_))
  have hH48 := hH44.redrawn hr47
  refine zK [0, 1, 2, 3, 4] kz (hH48.sub (sK (sK (sK (sC sR))))) _ _ _ kz (qM Z Z Z (zL Z Z (yQ Z) (zL Z Z (zJ T.XZ Z) (zL Z Z (qE (m := 9) (j := 0) T.ZB Z (by first | omega | (simp only [List.length_set]; omega)) (by rfl) Z (fun _ hw => (Heap.xS hw (n := 2) Z))) (zL Z Z (zW (cs := [(.int .i64 (ai : Int)), (.int .i64 (ak : Int))]) T.YB Z Z (fun _ hw => Heap.yI hw (n := 0) Z (k := 0) Z)) (zV (z1 5 kz Z (GV (n := 3) (k := (((ai : Int), (ak : Int)) : Int × Int)) T.K8 hO.ents Z Z hH48 Z (fun es9 w49 hents9 hsub9 hH50 => (zD (⟨(hH50.sub (sK (sK (sK (sC sR))))), (zY kz (yB ?_))⟩)))))))))))
  have hH51 := (hH50.sub (sC sR))
  refine yY (es9, (del ((ai : Int), (ak : Int)) m3), (seen.push e29.born)) (uC Z (uC Z (uC Z (Sub.nil _)))) ?_ ?_
  ·exact ⟨hH51, hO.del hen hkey hbt hents9 hsub9⟩
  ·show _ < _; first | exact vF hen hns | exact Nat.lt_of_le_of_lt (Sf.unseen_sub hsub9) (vF hen hns)
 have hbn : ¬ Sf.btw l (ai : Int) (ak : Int) := of_decide_eq_false (decide_eq_false hc45)
 refine zM Z (dF hc45) (skip (yB ?_))
 have hH52 := (hH44.sub (sC sR))
 refine yY (es2, m3, (seen.push e29.born)) (uC Z (uC Z (uC Z (Sub.nil _)))) ?_ ?_
 ·exact ⟨hH52, hO.keep hen hkey hbn⟩
 ·show _ < _; first | exact vF hen hns | exact Nat.lt_of_le_of_lt (Sf.unseen_sub hsub9) (vF hen hns)
end Go.Fip
namespace Go.Fip
open Go.Proofs Go.RowKit
theorem G5 {v : Value} {l : List Int} {room : Int} {w : World} (h0 : Rd encI 1 v l w) (hn : l.length ≤ 1000000) (hc : Sf.ck room l = 0)  :
  Fn Tryz.prog 90 [(.agg #[(.int .i64 room), v])].toArray w (fun u w => ∃ bb : Nat, u = .tuple #[.pointer (some ⟨bb, 0, none⟩), .int .i64 0] ∧ BnEx Sf.kvS Sf.vvI (Sf.Full l) 148 bb [.int .i64 room, v] (List.replicate 9 0) w) := by
 refine fz Tryz.func90 Z kz Z Z (fun hH => ?_)
 have hday := Sf.ck_iff.1 hc
 refine zr (yW Z Z Z hH (fun b1 w2 hH3 => (oA hH3 Z (oA hH3 Z (zt (seq (zr (zA hH3 Z Z (zW (cs := [(.int .i64 room), v]) T.xZ Z Z (fun _ hw => Heap.yI hw (n := 0) Z (k := 0) Z)) (zN Z Z Z hH3 (zC8 (h0.now hH3 (n := 1) Z) om) (fun w4 hH5 => (oA hH5 Z (zs (oM hH5 Z (zA hH5 Z Z (yH Z Z) (zt ?_)))))))))))))))
 have hc6 : ¬ (¬ ((Sf.ck room l) = 0)) := fun h => h hc
 refine zM Z (vN hc6) (skip (zu (zA hH5 Z Z (zW (cs := [(.int .i64 room), v]) T.xZ Z Z (fun _ hw => Heap.yI hw (n := 0) Z (k := 0) Z)) (y2 Z Z Z hH5 (zE0 (h0.now hH5 (n := 1) Z) hday) (fun u9 w7 lo10 hi11 hH8 hv12 => ?_)))))
 obtain ⟨bbD14, hu, hrowD14⟩ := hv12
 subst hu
 obtain ⟨mbD14, mmD14, hfullD14, hH13⟩ := Heap.X4 hH8 (n := 0) rfl (fun w' h => by obtain ⟨rb', e, h⟩ := h; cases e; exact h)
 refine oA hH13 Z (oA hH13 Z (zt (ret ?_)))
 have hH15 := (hH13.sub (sK (sK (sC sR))))
 refine fin (hH15.front (n := 2) Z) (fun w' hf => (xI Z (rt Z) (rt Z))) (fun w' hf => ?_)
 exact ⟨_, Z, _, _, Heap.xS hf (n := 1) Z, Heap.kJ hf (n := 0) Z, hfullD14⟩
theorem zA4 {v : Value} {l : List Int} {room : Int} {w : World} (h0 : Rd encI 1 v l w) (hn : l.length ≤ 1000000) (hc : ¬ Sf.ck room l = 0)  :
  Fn Tryz.prog 90 [(.agg #[(.int .i64 room), v])].toArray w (fun u _ => u = .tuple #[.pointer none, .int .i64 (Sf.ck room l)]) := by
 refine fz Tryz.func90 Z kz Z Z (fun hH => (zr (yW Z Z Z hH (fun b1 w2 hH3 => (oA hH3 Z (oA hH3 Z (zt (seq (zr (zA hH3 Z Z (zW (cs := [(.int .i64 room), v]) T.xZ Z Z (fun _ hw => Heap.yI hw (n := 0) Z (k := 0) Z)) (zN Z Z Z hH3 (zC8 (h0.now hH3 (n := 1) Z) om) (fun w4 hH5 => (oA hH5 Z (zs (oM hH5 Z (zA hH5 Z Z (yH Z Z) (zt ?_)))))))))))))))))
 have hc6 : ¬ ((Sf.ck room l) = 0) := hc
 refine zO Z (zG hc6) (zr (oM hH5 Z (oA hH5 Z (oA hH5 Z (zt (ret (z2 ?_)))))))
 have hH7 := (hH5.sub (sC sR))
 refine fin hH7 (fun w' hf => (xI Z (rt Z) (rt Z))) (fun w' hf => ?_)
 rfl
theorem zC0 {v : Value} {l : List Int} {room : Int} {w : World} (h0 : Rd encI 1 v l w) (hn : l.length ≤ 1000000) {rule : Int} (hc : Sf.ck room l = 0) (hr : 1 ≤ rule ∧ rule ≤ 3)  :
  Fn Tryz.prog 34 [(.agg #[(.int .i64 room), v]), (.int .i64 rule)].toArray w (fun u w => ∃ bb : Nat, u = .tuple #[.pointer (some ⟨bb, 0, none⟩), .int .i64 0] ∧ BnEx Sf.kvS Sf.vvI (Sf.Full l) 148 bb [.int .i64 room, v] (List.replicate 9 0) w) := by
 refine fz Tryz.func34 Z kz Z Z (fun hH => ?_)
 have hday := Sf.ck_iff.1 hc
 have hc0 := hc
 refine zr (yW Z Z Z hH (fun b1 w2 hH3 => (oA hH3 Z (oA hH3 Z (zs (zA hH3 Z Z (zW (cs := [(.int .i64 room), v]) T.xZ Z Z (fun _ hw => Heap.yI hw (n := 0) Z (k := 0) Z)) (y2 Z Z Z hH3 (G5 (h0.now hH3 (n := 1) Z) om hc0) (fun u6 w4 lo7 hi8 hH5 hv9 => ?_))))))))
 obtain ⟨bbD11, hu, hrowD11⟩ := hv9
 subst hu
 obtain ⟨mbD11, mmD11, hfullD11, hH10⟩ := Heap.X4 hH5 (n := 0) rfl (fun w' h => by obtain ⟨rb', e, h⟩ := h; cases e; exact h)
 refine oM hH10 Z (zA hH10 Z Z (zI Z Z) (zA hH10 Z Z (zI Z Z) (oA hH10 Z (oA hH10 Z (zt (seq (block (zr (oM hH10 Z (zA hH10 Z Z (yH Z Z) (oA hH10 Z (zt (zM Z Z (zr (oM hH10 Z (z8 T.zC [rule] Z (fun w => by kernel_rfl) hH10 (fun u12 lo14 hi15 w13 hH16 => (zN Z Z Z hH16 (WH (Heap.yO T.zC hH16 (n := 0) Z)) (fun w17 hH18 => ?_)))))))))))))))))))
 refine zA hH18 Z Z (y7 Z) (oA hH18 Z (zt ?_))
 have hc19 : ¬ (¬ (1 ≤ rule ∧ rule ≤ 3)) := by simp; omega
 refine zM Z (vN hc19) (skip (yB (zu (oM hH18 Z (oA hH18 Z (oA hH18 Z (zt (ret ?_))))))))
 have hH20 := (hH18.sub (sC (sK (sK (sC sR)))))
 refine fin (hH20.front (n := 2) Z) (fun w' hf => (xI Z (rt Z) (rt Z))) (fun w' hf => ?_)
 exact ⟨_, Z, _, _, Heap.xS hf (n := 1) Z, Heap.kJ hf (n := 0) Z, hfullD11⟩
theorem zE7 {v : Value} {l : List Int} {room : Int} {w : World} (h0 : Rd encI 1 v l w) (hn : l.length ≤ 1000000) {rule : Int} (hc : ¬ Sf.ck room l = 0)  :
  Fn Tryz.prog 34 [(.agg #[(.int .i64 room), v]), (.int .i64 rule)].toArray w (fun u _ => u = .tuple #[.pointer none, .int .i64 (Sf.ck room l)]) := by
 refine fz Tryz.func34 Z kz Z Z (fun hH => ?_)
 have hcn := hc
 refine zr (yW Z Z Z hH (fun b1 w2 hH3 => (oA hH3 Z (oA hH3 Z (zs (zA hH3 Z Z (zW (cs := [(.int .i64 room), v]) T.xZ Z Z (fun _ hw => Heap.yI hw (n := 0) Z (k := 0) Z)) (zN Z Z Z hH3 (zA4 (h0.now hH3 (n := 1) Z) om hcn) (fun w4 hH5 => (oM hH5 Z (zA hH5 Z Z (zI Z Z) (zA hH5 Z Z (zI Z Z) (oA hH5 Z (oA hH5 Z (zt (seq (block (zr ?_)))))))))))))))))
 refine oM hH5 Z (zA hH5 Z Z (yH Z Z) (oA hH5 Z (zt ?_)))
 have hc6 : ¬ ((Sf.ck room l) = 0) := hc
 refine zO Z (zG hc6) (zr (oM hH5 Z (oA hH5 Z (oA hH5 Z (zt (ret (yD (z2 ?_))))))))
 have hH7 := (hH5.sub (sC sR))
 refine fin hH7 (fun w' hf => (xI Z (rt Z) (rt Z))) (fun w' hf => ?_)
 rfl
theorem zD8 {v : Value} {l : List Int} {room : Int} {w : World} (h0 : Rd encI 1 v l w) (hn : l.length ≤ 1000000) {rule : Int} (hc : Sf.ck room l = 0) (hr : ¬ (1 ≤ rule ∧ rule ≤ 3))  :
  Fn Tryz.prog 34 [(.agg #[(.int .i64 room), v]), (.int .i64 rule)].toArray w (fun u _ => u = .tuple #[.pointer none, .int .i64 2]) := by
 refine fz Tryz.func34 Z kz Z Z (fun hH => ?_)
 have hday := Sf.ck_iff.1 hc
 have hc0 := hc
 refine zr (yW Z Z Z hH (fun b1 w2 hH3 => (oA hH3 Z (oA hH3 Z (zs (zA hH3 Z Z (zW (cs := [(.int .i64 room), v]) T.xZ Z Z (fun _ hw => Heap.yI hw (n := 0) Z (k := 0) Z)) (y2 Z Z Z hH3 (G5 (h0.now hH3 (n := 1) Z) om hc0) (fun u6 w4 lo7 hi8 hH5 hv9 => ?_))))))))
 obtain ⟨bbD11, hu, hrowD11⟩ := hv9
 subst hu
 obtain ⟨mbD11, mmD11, hfullD11, hH10⟩ := Heap.X4 hH5 (n := 0) rfl (fun w' h => by obtain ⟨rb', e, h⟩ := h; cases e; exact h)
 refine oM hH10 Z (zA hH10 Z Z (zI Z Z) (zA hH10 Z Z (zI Z Z) (oA hH10 Z (oA hH10 Z (zt (seq (block (zr (oM hH10 Z (zA hH10 Z Z (yH Z Z) (oA hH10 Z (zt (zM Z Z (zr (oM hH10 Z (z8 T.zC [rule] Z (fun w => by kernel_rfl) hH10 (fun u12 lo14 hi15 w13 hH16 => (zN Z Z Z hH16 (WH (Heap.yO T.zC hH16 (n := 0) Z)) (fun w17 hH18 => ?_)))))))))))))))))))
 refine zA hH18 Z Z (y7 Z) (oA hH18 Z (zt ?_))
 have hc19 : ¬ (1 ≤ rule ∧ rule ≤ 3) := hr
 refine zO Z (zG hc19) (zr (oA hH18 Z (oA hH18 Z (zt (ret (yD (z2 ?_)))))))
 have hH20 := (hH18.sub (sC (sC (sC (sC sR)))))
 refine fin hH20 (fun w' hf => (xI Z (rt Z) (rt Z))) (fun w' hf => ?_)
 rfl
end Go.Fip
namespace Go.Fip
open Go.RowKit
section
variable {r : Option Nat} {P : Program} {N : Nat} {ds : List Deferred} {env : Env} {w : World} {Q : Post} {all : Array Oper} {rest : List Oper} {H : List Item} {x y : Operand} {v : Value} {d : Nat} {ty : TypeId} {pos : String} {after : Array Edge}
theorem V6 {α : Type} {T E sz n lo hi i j : Nat} {enc : α → List Value} (hE : El P T E sz enc) {xs : List α} (hs : ev env x = some (cutv v sz 0 i)) (hx : ev env y = some (cutv v sz j xs.length)) (hd : Nat.blt d N = true) (hH : Heap H w)
    (hn : H[n]? = some (ow lo hi E sz enc v xs)) (hij : i ≤ j) (hj : j ≤ xs.length) (h1 : 1 ≤ xs.length)
    (h : ∀ w', Heap (H.set n (ow lo hi E sz enc v (xs.take i ++ xs.drop j ++ xs.drop (i + (xs.length - j))))) w' → Ops r P N all rest ds ((d, cutv v sz 0 (i + (xs.length - j))) :: env) w' Q) :
    Ops r P N all (⟨some d, .call ⟨.builtin .append, #[x, y], #[T, T]⟩, ty, pos, after, none⟩ :: rest) ds env w Q := by
  have hok := hH.okAt hn
  have how : Ow lo hi E sz enc v xs w := hH.get hn
  obtain ⟨inf, z, hi1, hz, hsz, hby, hzs⟩ := hE.info
  rcases how.1.2 with ⟨rfl, h3⟩ | ⟨g, cap, cur, hsv, hb0, hg, h4, h5, h6, h7⟩
  · omega
  · subst hsv
    subst hsz
    have hrd := Rd.cut (Ow.rd hE.len how) (lo := j) (hi := xs.length) hj (Nat.le_refl _)
    rw [List.take_length] at hrd
    have e0 : ∀ k, cutv (.slice (some ⟨g, 0, none⟩) xs.length cap) inf.size 0 k = .slice (some ⟨g, 0, none⟩) k cap := fun k => by simp [cutv, Addr.add]
    obtain ⟨o, eo⟩ : ∃ o, cutv (.slice (some ⟨g, 0, none⟩) xs.length cap) inf.size j xs.length = .slice (some ⟨g, o, none⟩) (xs.length - j) (cap - j) := by
      simp only [cutv]
      by_cases hc : cap = j
      · exact ⟨0, by rw [if_pos hc]⟩
      · exact ⟨j * inf.size, by rw [if_neg hc]; simp [Addr.add]; intro h; exact h.symm⟩
    rw [e0] at hs
    rw [eo] at hx hrd
    have hlen : (xs.drop j).length = xs.length - j := List.length_drop
    have hfl := yP hE.len (xs.drop j)
    have hle2 : xs.length * inf.size ≤ cap * inf.size := Nat.mul_le_mul_right _ h4
    have hle : (i + (xs.length - j)) * inf.size ≤ xs.length * inf.size := Nat.mul_le_mul_right _ (by omega)
    rw [Nat.add_mul] at hle
    have hr := run_append_room (P := P) w T ty E inf hE.und hi1 g i cap cur hg ⟨g, o, none⟩ (xs.length - j) (cap - j) ((xs.drop j).flatMap enc) (by rw [hfl, hlen]) (hrd.flat hE.len hE.pos)
      (fun u hu => by obtain ⟨x, _, hx⟩ := List.mem_flatMap.1 hu; exact hE.one x u hx) (by omega) (by rw [hfl, hlen, h6]; omega)
    have hov := Z3 (P := P) (w := w) (lo := lo) (hi := hi) hE (ys := xs.drop j) hg rfl h4 h5 h6 h7 (how.2 g rfl) i (by omega)
    rw [hlen] at hov
    have hh := h _ (hH.set hn ((uT w g _).mono' (how.2 g rfl)) (.inl ⟨Nat.le_refl _, Nat.le_refl _⟩) (jA hov hok.1 (by rw [setRow_size]; exact hok.2.1)))
    rw [e0] at hh
    refine uD hd (fun c hc => by cases hc) (fun a ha => ?_) hh
    simp only [execOp, resolve, invoke, builtin, Sem.run_bind, Sem.run_pure, Result.andThen, List.map_toArray, List.map_cons, List.map_nil, ha.ev hs, ha.ev hx, hr, splice]
theorem JG {v : Value} {n sz q : Nat} (hv : SliceIs v n) : ∃ a c, v = .slice a n c ∧ n ≤ c ∧ cutv v sz 0 q = .slice a q c := by
  obtain ⟨a, c, rfl, hnc, ha⟩ := hv
  refine ⟨a, c, rfl, hnc, ?_⟩
  rcases ha with ⟨rfl, rfl⟩ | ⟨b, o, rfl⟩
  · simp [cutv]
  · have e : (⟨b, o, none⟩ : Addr).add 0 = ⟨b, o, none⟩ := by unfold Addr.add; split <;> rfl
    simp [cutv, e]
theorem GM {S : World → Prop} {z p : Operand} {T E sz n q : Nat} {k k2 : IntKind} {l h : Int} (hT : TSlice P T E sz) (hx : ev env x = some (cutv v sz 0 q)) (hy : ev env z = some (.int k l)) (hz : ev env p = some (.int k2 h)) (hv : SliceIs v n) (hl : l = (q : Int)) (hh : h = (n : Int)) (hq : q ≤ n) :
  Yv P N ds env (.slice T x (some z) (some p) none) (cutv v sz q n) S := fun t ht w _ _ _ _ _ _ => by
 subst hl hh
 obtain ⟨a, c, rfl, hnc, e0⟩ := JG (sz := sz) (q := q) hv
 rw [e0] at hx
 have e1 : ∀ (k : IntKind) (y : Nat) (q : Int) (code : BoundsCode), 0 ≤ q → q ≤ y → (Instr.sliceBound (.int k q) y code).run P w = .ok q.toNat w := by
  intro k y q code h0 h1
  simp [Instr.sliceBound, asIntOf, h0, h1]
 have h3 := e1 k2 c (n : Int) .sliceAcap (by omega) (by omega)
 have h4 := e1 k n (q : Int) .sliceB (by omega) (by omega)
 have eb1 : (Instr.sliceBounds true q c (some (.int k (q : Int))) (some (.int k2 (n : Int))) none).run P w = .ok (q, n, c) w := by
  simp [Instr.sliceBounds, h3, h4, Result.andThen]
 simp [execOp, ht.ev hx, ht.ev hy, ht.ev hz, Instr.sliceAt, Instr.slice, run_underlying hT.1, eb1, vL hT.2, Result.andThen, cutv]
theorem zAm {S : World → Prop} {z p q : Operand} {T E sz n lo hi : Nat} {k k2 k3 : IntKind} {l h m : Int} (hT : TSlice P T E sz) (hx : ev env x = some v) (hy : ev env z = some (.int k l)) (hz : ev env p = some (.int k2 h)) (hm : ev env q = some (.int k3 m)) (hv : SliceIs v n) (hl : l = (lo : Int)) (hh : h = (hi : Int)) (hmn : m = (n : Int)) (h1 : lo ≤ hi) (h2 : hi ≤ n) :
  Yv P N ds env (.slice T x (some z) (some p) (some q)) (YW v sz lo hi n) S := fun t ht w _ _ _ _ _ _ => by
 subst hl hh hmn
 obtain ⟨a, c, rfl, hnc, hp⟩ := hv
 have e1 : ∀ (k : IntKind) (y : Nat) (q : Int) (code : BoundsCode), 0 ≤ q → q ≤ y → (Instr.sliceBound (.int k q) y code).run P w = .ok q.toNat w := by
  intro k y q code h0 h1
  simp [Instr.sliceBound, asIntOf, h0, h1]
 have h3 := e1 k3 c (n : Int) .slice3Acap (by omega) (by omega)
 have h4 := e1 k2 n (hi : Int) .slice3B (by omega) (by omega)
 have h5 := e1 k hi (lo : Int) .slice3C (by omega) (by omega)
 have eb1 : (Instr.sliceBounds true n c (some (.int k (lo : Int))) (some (.int k2 (hi : Int))) (some (.int k3 (n : Int)))).run P w = .ok (lo, hi, n) w := by
  simp [Instr.sliceBounds, h3, h4, h5, Result.andThen]
 simp [execOp, ht.ev hx, ht.ev hy, ht.ev hz, ht.ev hm, Instr.sliceAt, Instr.slice, run_underlying hT.1, eb1, vL hT.2, Result.andThen, YW]
end
end Go.Fip
namespace Go.Fip
open Go.Proofs Go.RowKit
theorem c94 {v : Value} {l : List Int} {g i j : Nat} {w : World} (h0 : Own 3 1 encI v l w) (hg : v.ownBlock = some g) (hn : l.length ≤ 1000000) (hij : i < j) (hj : j ≤ l.length) :
  FnM Tryz.prog 94 [v, (.int .i64 (i : Int)), (.int .i64 (j : Int))].toArray w g (fun u w => Own 3 1 encI u (l.take i ++ l.drop j) w) := by
 refine uM (args := [v, (.int .i64 (i : Int)), (.int .i64 (j : Int))]) Tryz.func94 Z (ent Tryz.func94 kz Z) Z Z (qB h0 hg) (fun hH => ?_)
 have hll : (l.take i ++ l.drop j ++ l.drop (i + (l.length - j))).length = l.length := by simp; omega
 have htl : ((l.take i ++ l.drop j ++ l.drop (i + (l.length - j))).take (i + (l.length - j))).length = (i + (l.length - j)) := by rw [List.length_take, hll]; omega
 refine zr (oA hH Z (zs (oM hH Z (oM hH Z (oM hH Z (oM hH Z (zA hH Z Z (yA T.yV Z (Heap.yO T.zC hH (n := 0) Z).is) (zA hH Z Z (zAm T.yV Z Z Z Z (Heap.yO T.zC hH (n := 0) Z).is Z Z Z om om) (zt (seq (zr (oM hH Z (oM hH Z (zA hH Z Z (y6 Z Z) (zD ?_)))))))))))))))
 refine zP ?_
 have hc1 : ¬ ((i : Int) = (j : Int)) := (show ¬ ((i : Int) = (j : Int)) by omega)
 refine zM Z (dF hc1) (skip (zu (oM hH Z (zA hH Z Z (yA T.yV Z (Heap.yO T.zC hH (n := 0) Z).is) (oA hH Z (zt (seq (zZ (fun w' => True) T.mixed (fun w2 hr3 => ?_)))))))))
 have hH4 := hH.redrawn hr3
 refine zK [0, 1, 2, 3, 4, 5] kz trivial _ _ _ kz (qM Z Z Z (qM Z Z Z (zL Z Z (qZ T.yV Z Z (Heap.yO T.zC hH4 (n := 0) Z).is om) (qM Z Z Z (qM Z Z Z (zL Z Z (x3 T.yV Z Z (Heap.yO T.zC hH4 (n := 0) Z).is om) (zV (z1 6 kz Z (V6 (n := 0) (i := i) (j := j) T.zC Z Z Z hH4 Z om om om (fun w5 hH6 => (zD (⟨trivial, (zK [7] kz trivial _ _ _ kz (zL Z Z (yG Z) (zV (zY kz (zu (oM hH6 Z (oM hH6 Z ?_)))))))⟩))))))))))))
 refine zA hH6 Z Z (yA T.yV Z ((Rd.upto (Heap.yO T.zC hH6 (n := 0) Z) (hi := (i + (l.length - j))) (by rw [hll]; omega))).is) (oM hH6 Z (zA hH6 Z Z (GM T.yV Z Z Z (Heap.yO T.zC hH6 (n := 0) Z).is om (by rw [hll]) (by rw [hll]; omega)) (qP (n := 0) (q := (i + (l.length - j))) T.zC (0 : Int) T.uO Z Z hH6 Z (by rw [hll]; omega) (fun w7 hH8 => (zs (oM hH8 Z (oA hH8 Z (zt (ret (finM hH8 (yN Z (rt Z)) (fun w' hf => ((congrArg (fun q => Own 3 1 encI (cutv v 1 0 (i + (l.length - j))) q w') ?_).mp (Own.upto (q := (i + (l.length - j))) (fun _ => Z) hf.1 (by simp; omega))))))))))))))
 rw [List.take_append_of_le_length (by rw [List.length_take, hll]; omega), List.take_take, Nat.min_self, List.take_left' (by simp; omega)]
end Go.Fip
namespace Go.Fip
open Go.Proofs Go.RowKit
theorem c99 {x n : Int} {b1 : Nat} {w : World} (k1 : Bx b1 3 [.int .i64 n] w)  :
  Fn Tryz.prog 99 [(.int .i64 x), (.pointer (some ⟨b1, 0, none⟩))].toArray w (fun u _ => u = .bool (decide (x = n))) := by
 refine fz Tryz.func99 Z kz Z Z (fun hH => (zr (oA hH Z (zs (oM hH Z (zA hH Z Z (zF T.yU Z (fun _ hw => yM (k1.now hw (n := 0) Z) Z)) (zA hH Z Z (y6 Z Z) (oA hH Z (zt (ret (fin hH (fun w' hf => (yN Z (rt Z))) (fun w' hf => ?_))))))))))))
 rfl
theorem zCn {v : Value} {l : List Int} {n : Int} {b1 : Nat} {w : World} (h0 : Rd encI 1 v l w) (k1 : Bx b1 3 [.int .i64 n] w) (hl : l.length ≤ 1000000)  :
  Fn Tryz.prog 148 [v, (.func (.func 99) #[] #[(.pointer (some ⟨b1, 0, none⟩))])].toArray w (fun u _ => u = .int .i64 (idx (fun x : Int => decide (x = n)) l)) := by
 refine fz Tryz.func148 Z kz Z Z (fun hH => (zr (oA hH Z (zt (seq (zr (oM hH Z (zA hH Z Z (yA T.yV Z (h0.now hH (n := 0) Z).is) (oM hH Z (zt (block (loop (S := Nat) (fun k => [(8, (.int .i64 (k : Int))), (0, v), (1, (.func (.func 99) #[] #[(.pointer (some ⟨b1, 0, none⟩))])), (7, (.int .i64 (l.length : Int)))]) (fun k w1 => Heap [base w] w1 ∧ k ≤ l.length ∧ ∀ i, i < k → (fun x : Int => decide (x = n)) (nth l (i : Int)) = false) (fun k => l.length - k) (0) (uC Z (uC Z (uC Z (uC Z (Sub.nil _))))) ?_ ?_))))))))))))
 ·exact ⟨hH, by omega, S.all_zero⟩
 rintro k w1 ⟨hH2, hk, hall⟩
 refine zr (zA hH2 Z Z (yK Z Z) (zt (seq ?_)))
 by_cases hc3 : (k : Int) < (l.length : Int)
 ·refine zO Z (dT hc3) (skip (zP (seq (block (zr (oM hH2 Z (oA hH2 Z (zs (oM hH2 Z (oM hH2 Z (oM hH2 Z (zA hH2 Z Z (zS T.yV Z Z (h0.now hH2 (n := 0) Z).is om) (zA hH2 Z Z (zF T.yU Z (fun _ hw => Rd.at (h0.now hw (n := 0) Z) (i := (k : Int)) om (j := 0) Z)) (zN Z Z Z hH2 (c99 (k1.now hH2 (n := 0) Z)) (fun w4 hH5 => (zt ?_))))))))))))))))
  by_cases hc6 : nth l (k : Int) = n
  ·have hp : (fun x : Int => decide (x = n)) (nth l (k : Int)) = true := (decide_eq_true hc6)
   refine zO Z (dT hc6) (zr (oM hH5 Z (oA hH5 Z (zt (ret (yD (z2 (xT (yD (z2 (fin hH5 (fun w' hf => (yN Z (rt Z))) (fun w' hf => ?_))))))))))))
   first | exact congrArg (Value.int .i64) (x2 (k := k) (by omega) hall hp).symm | exact congrArg (Value.int .i64) (xQ (fun i hi => hall i (by omega))).symm
  have hp : (fun x : Int => decide (x = n)) (nth l (k : Int)) = false := (decide_eq_false hc6)
  refine zM Z (dF hc6) (skip (yB (zP (region (zA hH5 Z Z (zX Z Z om) (oM hH5 Z (zD (yY (k + 1) (uC Z (uC Z (uC Z (uC Z (Sub.nil _))))) ?_ ?_))))))))
  ·exact ⟨hH5, by omega, S.all_snoc hall hp⟩
  ·first | (dsimp only; omega) | (show _ < _; omega)
 refine zM Z (dF hc3) (exit (yX (xF (z7 (zu (oA hH2 Z (zt (ret (fin hH2 (fun w' hf => (yN Z (rt Z))) (fun w' hf => ?_))))))))))
 first | exact congrArg (Value.int .i64) (x2 (k := k) (by omega) hall hp).symm | exact congrArg (Value.int .i64) (xQ (fun i hi => hall i (by omega))).symm
theorem zCu {v : Value} {l : List Int} {n : Int} {b1 g : Nat} {w : World} (h0 : Own 3 1 encI v l w) (hg : v.ownBlock = some g) (k1 : Bx b1 3 [.int .i64 n] w) (hne : b1 ≠ g) (hn : l.length ≤ 1000000) :
  FnM Tryz.prog 98 [v, (.func (.func 99) #[] #[(.pointer (some ⟨b1, 0, none⟩))])].toArray w g (fun u w => Own 3 1 encI u (l.filter fun y => !decide (y = n)) w) := by
 refine uM (args := [v, (.func (.func 99) #[] #[(.pointer (some ⟨b1, 0, none⟩))])]) Tryz.func98 Z (ent Tryz.func98 kz Z) Z Z (qB h0 hg) (fun hH => ?_)
 have hlen : l.length ≤ 1000000 := hn
 refine zr (oA hH Z (zs (oM hH Z (oM hH Z (zN Z Z Z hH (zCn (Heap.yO T.zC hH (n := 0) Z) (Bx.nowM k1 hne hH (n := 1) (m := 2) Z Z) om) (fun w1 hH2 => (oA hH2 Z (zt (seq (zr (oM hH2 Z (zA hH2 Z Z (y6 Z Z) (zt ?_)))))))))))))
 by_cases hc3 : (idx (fun x : Int => decide (x = n)) l) = (-1)
 ·have hall := ((qF (fun y : Int => decide (y = n)) l).resolve_right (fun h => by obtain ⟨k, _, h2, _⟩ := h; omega)).2
  refine zO Z (dT hc3) (zr (oM hH2 Z (oA hH2 Z (zt (ret (z2 (finM hH2 (yN Z (rt Z)) (fun w' hf => ?_))))))))
  first | exact (congrArg (fun q => Own 3 1 encI v q w') (ZZ hall)).mp hf.1 | exact (congrArg (fun q => Own 3 1 encI (cutv v 1 0 i) q w') (hD.done (by omega) 0)).mp (Own.upto (q := i) (fun _ => rfl) hf.1 (by simp; omega))
 obtain ⟨k, hk, hke, hkp, hkf⟩ := (qF (fun y : Int => decide (y = n)) l).resolve_left (fun h => absurd h.1 ‹_›)
 refine zM Z (dF hc3) (skip (zP (seq (zr (oM hH2 Z (zA hH2 Z Z (zX Z Z om) (oA hH2 Z (zt (block (loop (S := Nat × Nat × List Int) (fun (i, j, L) => [(5, (.int .i64 (i : Int))), (6, (.int .i64 (j : Int))), (0, v), (1, (.func (.func 99) #[] #[(.pointer (some ⟨b1, 0, none⟩))])), (4, (.slice none 0 0))]) (fun (i, j, L) w1 => Heap [ow g (g + 1) 3 1 encI v L, restL w g, restR w g] w1 ∧ DelAt (fun y : Int => decide (y = n)) l L i j) (fun (i, j, L) => l.length - j) (k, (k + 1), l) (Sub.cons (show some (Value.int .i64 (idx (fun y : Int => decide (y = n)) l)) = some (Value.int .i64 ((k : Nat) : Int)) from by rw [hke]) (Sub.cons (show some (Value.int .i64 (idx (fun y : Int => decide (y = n)) l + 1)) = some (Value.int .i64 ((k + 1 : Nat) : Int)) from by rw [hke]; rfl) (uC Z (uC Z (uC Z (Sub.nil _)))))) ?_ ?_))))))))))
 ·exact ⟨hH2, ⟨by omega, hk, Z, VR hk hkf hkp, Z⟩⟩
 rintro ⟨i, j, L⟩ w4 ⟨hH5, hD⟩
 have hD8 := hD
 obtain ⟨hij, hjl0, hLl, _, _⟩ := hD8
 refine seq (zr (oM hH5 Z (oM hH5 Z (zA hH5 Z Z (yA T.yV Z (Heap.yO T.zC hH5 (n := 0) Z).is) (zA hH5 Z Z (yK Z Z) (zt ?_))))))
 by_cases hc6 : (j : Int) < (L.length : Int)
 ·have hjl : j < l.length := by omega
  refine zO Z (dT hc6) (skip (zP (seq (block (zr (oM hH5 Z (oM hH5 Z (zA hH5 Z Z (zS T.yV Z Z (Heap.yO T.zC hH5 (n := 0) Z).is om) (zA hH5 Z Z (zF T.yU Z (fun _ hw => Rd.at (Heap.yO T.zC hw (n := 0) Z) (i := (j : Int)) om (j := 0) Z)) (oA hH5 Z (zs (oM hH5 Z (oM hH5 Z (zN Z Z Z hH5 (c99 (Bx.nowM k1 hne hH5 (n := 1) (m := 2) Z Z)) (fun w7 hH8 => (zA hH8 Z Z (y7 Z) (zt ?_)))))))))))))))))
  by_cases hc9 : nth L (j : Int) = n
  ·have hdrop : (fun y : Int => decide (y = n)) (nth l (j : Int)) = true := by rw [← hD.nth hjl]; exact decide_eq_true ‹_›
   refine zM Z (zH hc9) (skip (yB (zP (region (oM hH8 Z (zA hH8 Z Z (zX Z Z om) (oA hH8 Z (zD (yY (i, j + 1, L) (uC Z (uC Z (uC Z (uC Z (uC Z (Sub.nil _)))))) ?_ ?_)))))))))
   ·exact ⟨hH8, hD.drop hjl hdrop⟩
   ·first | (dsimp only; omega) | (show _ < _; omega)
  have hkeep : (fun y : Int => decide (y = n)) (nth l (j : Int)) = false := by rw [← hD.nth hjl]; exact decide_eq_false ‹_›
  refine zO Z (zG hc9) (zr (oM hH8 Z (oM hH8 Z (oM hH8 Z (zA hH8 Z Z (zS T.yV Z Z (Heap.yO T.zC hH8 (n := 0) Z).is om) (vC (n := 0) (i := (i : Int)) (k := 0) (us := [(.int .i64 (nth L (j : Int)))]) (z := nth L (j : Int)) T.zC Z Z hH8 Z om T.sz3 Z Z Z (Nat.le_of_ble_eq_true Z) (fun w10 hH11 => (zq (oM hH11 Z (zA hH11 Z Z (zX Z Z om) (oA hH11 Z (zD (yB (zP (region (oM hH11 Z (zA hH11 Z Z (zX Z Z om) (oA hH11 Z (zD ?_)))))))))))))))))))
  refine yY (i + 1, j + 1, (L.set (i : Int).toNat (nth L (j : Int)))) (uC Z (uC Z (uC Z (uC Z (uC Z (Sub.nil _)))))) ?_ ?_
  ·exact ⟨hH11, (by have h := hD.keep hjl hkeep; rw [← hD.nth hjl] at h; exact h)⟩
  ·first | (dsimp only; omega) | (show _ < _; omega)
 refine zM Z (dF hc6) (exit (yX (xF (z7 (zu (oM hH5 Z (oM hH5 Z (zA hH5 Z Z (x3 T.yV Z Z (Heap.yO T.zC hH5 (n := 0) Z).is om) (qP (n := 0) (q := (i : Int).toNat) T.zC (0 : Int) T.uO Z Z hH5 Z om (fun w12 hH13 => (zs (oM hH13 Z (oM hH13 Z (zA hH13 Z Z (qZ T.yV Z Z (Heap.yO T.zC hH13 (n := 0) Z).is (by simp; omega)) (oA hH13 Z (zt ?_))))))))))))))))
 refine ret (finM hH13 (yN Z (rt Z)) (fun w' hf => ?_))
 first | exact (congrArg (fun q => Own 3 1 encI v q w') (ZZ hall)).mp hf.1 | exact (congrArg (fun q => Own 3 1 encI (cutv v 1 0 i) q w') (hD.done (by omega) 0)).mp (Own.upto (q := i) (fun _ => rfl) hf.1 (by simp; omega))
theorem zEi {v : Value} {l : List Int} {g : Nat} {n lim : Int} {w : World} (h0 : Own 3 1 encI v l w) (hg : v.ownBlock = some g) (hn : l.length ≤ 12) (hne : 1 ≤ l.length) (hnl : n = (l.length : Int)) :
  FnM Tryz.prog 146 [v, (.int .i64 0), (.int .i64 n), (.int .i64 lim)].toArray w g (fun u w => u = .tuple #[] ∧ Own 3 1 encI v (Ps.sorted (fun x y : Int => decide (x < y)) l) w) := by
 refine uM (args := [v, (.int .i64 0), (.int .i64 n), (.int .i64 lim)]) Tryz.func146 Z (ent Tryz.func146 kz Z) Z Z (qB h0 hg) (fun hH => (zr (oA hH Z (zs (oA hH Z (zt (block (loop (S := Nat) (fun k => [(1, (.int .i64 0)), (2, (.int .i64 n)), (3, (.int .i64 lim)), (0, v)]) (fun k w1 => Heap [ow g (g + 1) 3 1 encI v l, restL w g, restR w g] w1 ∧ True) (fun k => k) (0) (uC Z (uC Z (uC Z (uC Z (Sub.nil _))))) ?_ ?_))))))))
 ·exact ⟨hH, trivial⟩
 rintro k w1 ⟨hH2, hT⟩
 refine block (zr (oM hH2 Z (oM hH2 Z (zA hH2 Z Z (xB Z Z om) (oA hH2 Z (zt (seq (zr (oM hH2 Z (zA hH2 Z Z (uH Z Z) (zt ?_)))))))))))
 have hc3 : (n - 0) ≤ 12 := (show n - 0 ≤ 12 by omega)
 refine zO Z (dT hc3) (zr (oM hH2 Z (oM hH2 Z (oM hH2 Z ?_))))
 obtain ⟨g4, hgb5, hgl6⟩ := Ow.blk (show Ow _ _ _ _ _ _ _ _ from hH2.get (n := 0) rfl) (by first | assumption | omega | (simp; done) | decide)
 refine x7 (g := g4) (n := 0) Z Z Z hH2 Z hgl6 (zEc (Heap.own hH2 (n := 0) Z) hgb5 om om) (fun u9 w7 hH8 hv10 => ?_)
 obtain ⟨rfl, -⟩ := hv10
 have hH11 := Heap.vA (Heap.weaken hH8 (n := 0) Z (φ := Own 3 1 encI v (Ps.sorted (fun x y : Int => decide (x < y)) l)) (fun w' h => h.2)) (n := 0) (by rfl)
 refine zt (ret (z2 (yD (xT (yD (finM hH11 (kA Z ) (fun w' hf => ?_)))))))
 exact ⟨Z, hf.1⟩
theorem c95 {v : Value} {l : List Int} {g : Nat} {w : World} (h0 : Own 3 1 encI v l w) (hg : v.ownBlock = some g) (hn : l.length ≤ 12) (hne : 1 ≤ l.length) :
  FnM Tryz.prog 95 [v].toArray w g (fun u w => u = .tuple #[] ∧ Own 3 1 encI v (Ps.sorted (fun x y : Int => decide (x < y)) l) w) := by
 refine uM (args := [v]) Tryz.func95 Z (ent Tryz.func95 kz Z) Z Z (qB h0 hg) (fun hH => (zr (oM hH Z (zA hH Z Z (yA T.yV Z (Heap.yO T.zC hH (n := 0) Z).is) (oA hH Z (zq (oM hH Z (oM hH Z (oM hH Z (zA hH Z Z (V9 Tryz.underlying3 Tryz.underlying196 Z (WF om)) (zN Z Z Z hH (zCf (x := (l.length : Int)) om om) (fun w1 hH2 => ?_))))))))))))
 obtain ⟨g3, hgb4, hgl5⟩ := Ow.blk (show Ow _ _ _ _ _ _ _ _ from hH2.get (n := 0) rfl) (by first | assumption | omega | (simp; done) | decide)
 refine x7 (g := g3) (n := 0) Z Z Z hH2 Z hgl5 (zEi (Heap.own hH2 (n := 0) Z) hgb4 (by first | omega | (simp; done)) (by first | omega | (simp; done)) (by first | omega | (simp; done))) (fun u8 w6 hH7 hv9 => ?_)
 obtain ⟨rfl, -⟩ := hv9
 have hH10 := Heap.vA (Heap.weaken hH7 (n := 0) Z (φ := Own 3 1 encI v (Ps.sorted (fun x y : Int => decide (x < y)) l)) (fun w' h => h.2)) (n := 0) (by rfl)
 refine zD (jN hH10 (kA Z ) (fun w' hf => ?_))
 exact ⟨Z, hf.1⟩
end Go.Fip
namespace Go.Fip
open Go.Proofs Go.RowKit
theorem c97 {bb mb : Nat} {room : Int} {v : Value} {C : List Int} {w : World} (kb : Bx bb 148 (seg [.int .i64 room, v] C [.map (some mb)]) w) (hC : C.length = 9) {l : List Int} (h0 : Rd encI 1 v l w) (hn : l.length ≤ 16) {x y i : Int} (hi : 0 ≤ i ∧ i < l.length) {b1 b2 : Nat} (k1 : Bx b1 143 [(.func (.func 92) #[(.pointer (some ⟨bb, 0, none⟩))] #[])] w) (k2 : Bx b2 3 [.int .i64 i] w)  :
  Fn Tryz.prog 97 [(.int .i64 x), (.int .i64 y), (.pointer (some ⟨b1, 0, none⟩)), (.pointer (some ⟨b2, 0, none⟩))].toArray w (fun u _ => u = .bool (decide (Sf.next l y i < Sf.next l x i))) := by
 refine fz Tryz.func97 Z kz Z Z (fun hH => (zr (oA hH Z (zt (seq (zZ (fun w' => Heap [base w] w') T.mixed (fun w1 hr2 => ?_)))))))
 have hH3 := hH.redrawn hr2
 refine zK [0, 1, 2, 4, 5, 6] kz hH3 _ _ _ kz (zL Z Z (zF T.J3 Z (fun _ hw => yM (k1.now hw (n := 0) Z) Z)) (qM Z Z Z (zL Z Z (zF T.yU Z (fun _ hw => yM (k2.now hw (n := 0) Z) Z)) (zL Z Z (zF T.J3 Z (fun _ hw => yM (k1.now hw (n := 0) Z) Z)) (qM Z Z Z (zL Z Z (zF T.yU Z (fun _ hw => yM (k2.now hw (n := 0) Z) Z)) (zV (z1 3 kz Z (zN Z Z Z hH3 (c92 (kb.now hH3 (n := 0) Z) (by first | omega | assumption | (simp only [List.length_set, List.length_replicate]; done) | (simp only [List.length_set]; omega)) (h0.now hH3 (n := 0) Z) om om) (fun w4 hH5 => (zD (⟨hH5, (z1 7 kz Z (zN Z Z Z hH5 (c92 (kb.now hH5 (n := 0) Z) (by first | omega | assumption | (simp only [List.length_set, List.length_replicate]; done) | (simp only [List.length_set]; omega)) (h0.now hH5 (n := 0) Z) om om) (fun w6 hH7 => (zD (⟨hH7, (zK [8, 9] kz hH7 _ _ _ kz (zL Z Z (xJ Z Z) (zL Z Z (yG Z) (zV ?_))))⟩)))))⟩))))))))))))
 refine zY kz (zP (ret (fin hH7 (fun w' hf => (yN Z (rt Z))) (fun w' hf => ?_))))
 rfl
end Go.Fip
namespace Go.Fip
namespace Sf
open S (place)
abbrev lti : Int → Int → Bool := fun x y => decide (x < y)
def late (l : List Int) (i : Int) : Int → Int → Bool := fun x y => decide (next l y i < next l x i)
structure Tri where
 on : List Int
 out : List Int
 mis : List Int
def off (rule : Int) (l on : List Int) (i : Int) : Int := if rule = 3 then bestTo (late l i) (Ps.sorted lti on) (on.length - 1) else nth on 0
def rest (rule : Int) (l on : List Int) (i : Int) : List Int := (if rule = 3 then Ps.sorted lti on else on).filter fun y => !decide (y = off rule l on i)
def step (room rule : Int) (l : List Int) (s : Tri) (i : Nat) : Tri :=
 if 0 ≤ place s.on (nth l (i : Int)) then
  ⟨if rule = 2 then s.on.take (place s.on (nth l (i : Int))).toNat ++ s.on.drop ((place s.on (nth l (i : Int))).toNat + 1) ++ [nth l (i : Int)] else s.on, s.out ++ [0], s.mis⟩
 else if (s.on.length : Int) = room then ⟨rest rule l s.on i ++ [nth l (i : Int)], s.out ++ [off rule l s.on i], s.mis ++ [(i : Int)]⟩
 else ⟨s.on ++ [nth l (i : Int)], s.out ++ [0], s.mis ++ [(i : Int)]⟩
def runTo (room rule : Int) (l : List Int) : Nat → Tri
 | 0 => ⟨[], [], []⟩
 | k + 1 => step room rule l (runTo room rule l k) k
theorem run_hit2 {room rule : Int} {l : List Int} {k : Nat} (h : 0 ≤ place (runTo room rule l k).on (nth l (k : Int))) (h2 : rule = 2) : runTo room rule l (k + 1) = ⟨(runTo room rule l k).on.take (place (runTo room rule l k).on (nth l (k : Int))).toNat ++ (runTo room rule l k).on.drop ((place (runTo room rule l k).on (nth l (k : Int))).toNat + 1) ++ [nth l (k : Int)], (runTo room rule l k).out ++ [0], (runTo room rule l k).mis⟩ := by
 show step _ _ _ _ _ = _
 unfold step
 rw [if_pos h, if_pos h2]
theorem run_hit {room rule : Int} {l : List Int} {k : Nat} (h : 0 ≤ place (runTo room rule l k).on (nth l (k : Int))) (h2 : ¬ rule = 2) : runTo room rule l (k + 1) = ⟨(runTo room rule l k).on, (runTo room rule l k).out ++ [0], (runTo room rule l k).mis⟩ := by
 show step _ _ _ _ _ = _
 unfold step
 rw [if_pos h, if_neg h2]
theorem run_full {room rule : Int} {l : List Int} {k : Nat} (h : ¬ 0 ≤ place (runTo room rule l k).on (nth l (k : Int))) (h2 : ((runTo room rule l k).on.length : Int) = room) : runTo room rule l (k + 1) = ⟨rest rule l (runTo room rule l k).on k ++ [nth l (k : Int)], (runTo room rule l k).out ++ [off rule l (runTo room rule l k).on k], (runTo room rule l k).mis ++ [(k : Int)]⟩ := by
 show step _ _ _ _ _ = _
 unfold step
 rw [if_neg h, if_pos h2]
theorem run_room {room rule : Int} {l : List Int} {k : Nat} (h : ¬ 0 ≤ place (runTo room rule l k).on (nth l (k : Int))) (h2 : ¬ ((runTo room rule l k).on.length : Int) = room) : runTo room rule l (k + 1) = ⟨(runTo room rule l k).on ++ [nth l (k : Int)], (runTo room rule l k).out ++ [0], (runTo room rule l k).mis ++ [(k : Int)]⟩ := by
 show step _ _ _ _ _ = _
 unfold step
 rw [if_neg h, if_neg h2]
theorem off_3 {rule : Int} {l on : List Int} {i : Int} (h : rule = 3) : off rule l on i = bestTo (late l i) (Ps.sorted lti on) (on.length - 1) := by unfold off; rw [if_pos h]
theorem off_n {rule : Int} {l on : List Int} {i : Int} (h : ¬ rule = 3) : off rule l on i = nth on 0 := by unfold off; rw [if_neg h]
theorem rest_3 {rule : Int} {l on : List Int} {i : Int} (h : rule = 3) : rest rule l on i = (Ps.sorted lti on).filter fun y => !decide (y = off rule l on i) := by unfold rest; rw [if_pos h]
theorem rest_n {rule : Int} {l on : List Int} {i : Int} (h : ¬ rule = 3) : rest rule l on i = on.filter fun y => !decide (y = off rule l on i) := by unfold rest; rw [if_neg h]
theorem XU {p : Int → Int → Bool} {l : List Int} : ∀ {k : Nat}, k < l.length → bestTo p l k ∈ l
 | 0, h => by show nth l ((0 : Nat) : Int) ∈ l; rw [yJ h]; exact List.getElem_mem h
 | k + 1, h => by
  show (if _ then _ else _) ∈ l
  split
  ·rw [yJ h]; exact List.getElem_mem h
  ·exact XU (by omega)
theorem zAp {rule : Int} {l on : List Int} {i : Int} (h : 1 ≤ on.length) : off rule l on i ∈ on := by
 by_cases hr : rule = 3
 ·rw [off_3 hr]
  have := XU (p := late l i) (l := Ps.sorted lti on) (k := on.length - 1) (by rw [Ps.sorted_len]; omega)
  exact (Ps.sorted_perm).mem_iff.1 this
 ·rw [off_n hr]; show nth on ((0 : Nat) : Int) ∈ on; rw [yJ h]; exact List.getElem_mem h
theorem J4 {rule : Int} {l on : List Int} {i : Int} (h : 1 ≤ on.length) : (rest rule l on i).length < on.length := by
 have hm := zAp (rule := rule) (l := l) (i := i) h
 have key : ∀ (xs : List Int) (d : Int), d ∈ xs → (xs.filter fun y => !decide (y = d)).length < xs.length := fun xs d hd => by
  induction xs with
  | nil => cases hd
  | cons a xs ih =>
   have hle := List.length_filter_le (fun y => !decide (y = d)) xs
   by_cases e : a = d
   ·simp only [List.filter_cons, e, decide_true, Bool.not_true, List.length_cons]
    simp only [Bool.false_eq_true, if_false]
    omega
   ·have := ih ((List.mem_cons.1 hd).resolve_left (fun h => e h.symm))
    simp only [List.filter_cons, decide_eq_false e, Bool.not_false, if_true, List.length_cons]
    omega
 by_cases hr : rule = 3
 ·rw [rest_3 hr]
  have := key (Ps.sorted lti on) _ ((Ps.sorted_perm).mem_iff.2 hm)
  rwa [Ps.sorted_len] at this
 ·rw [rest_n hr]; exact key _ _ hm
theorem run_len {room rule : Int} {l : List Int} (hr : 1 ≤ room) : ∀ k, ((runTo room rule l k).on.length : Int) ≤ room ∧ (runTo room rule l k).out.length = k ∧ (runTo room rule l k).mis.length ≤ k
  | 0 => by show ((0 : Nat) : Int) ≤ room ∧ 0 = 0 ∧ 0 ≤ 0; omega
  | k + 1 => by
    obtain ⟨h1, h2, h3⟩ := run_len (room := room) (rule := rule) (l := l) hr k
    by_cases h : 0 ≤ place (runTo room rule l k).on (nth l (k : Int))
    · by_cases hu : rule = 2
      · have hp := S.place_lt (runTo room rule l k).on (nth l (k : Int))
        rw [run_hit2 h hu]
        simp only [List.length_append, List.length_take, List.length_drop, List.length_cons, List.length_nil]
        omega
      · rw [run_hit h hu]
        simp only [List.length_append, List.length_cons, List.length_nil]
        omega
    · by_cases hf : ((runTo room rule l k).on.length : Int) = room
      · have := J4 (rule := rule) (l := l) (on := (runTo room rule l k).on) (i := k) (by omega)
        rw [run_full h hf]
        simp only [List.length_append, List.length_cons, List.length_nil]
        omega
      · rw [run_room h hf]
        simp only [List.length_append, List.length_cons, List.length_nil]
        omega
end Sf
end Go.Fip
namespace Go.Fip
open Go.Proofs Go.RowKit
theorem c96 {bb mb : Nat} {room : Int} {v : Value} {C : List Int} {w : World} (kb : Bx bb 148 (seg [.int .i64 room, v] C [.map (some mb)]) w) (hC : C.length = 9) {l : List Int} (h0 : Rd encI 1 v l w) (hn : l.length ≤ 16) {i : Int} (hi : 0 ≤ i ∧ i < l.length) {b1 b2 : Nat} (k1 : Bx b1 143 [(.func (.func 92) #[(.pointer (some ⟨bb, 0, none⟩))] #[])] w) (k2 : Bx b2 3 [.int .i64 i] w) {vo : Value} {o : List Int} (hO : Rd encI 1 vo o w) (ho : 1 ≤ o.length) (ho2 : o.length ≤ 1000000)  :
  Fn Tryz.prog 96 [vo, (.func (.func 97) #[] #[(.pointer (some ⟨b1, 0, none⟩)), (.pointer (some ⟨b2, 0, none⟩))])].toArray w (fun u _ => u = .int .i64 (bestTo (Sf.late l i) o (o.length - 1))) := by
 refine fz Tryz.func96 Z kz Z Z (fun hH => ?_)
 have hd : (o.drop 1).length = o.length - 1 := List.length_drop
 refine zr (oA hH Z (zs (oM hH Z (zA hH Z Z (zS T.yV Z Z (hO.now hH (n := 0) Z).is om) (zA hH Z Z (zF T.yU Z (fun _ hw => Rd.at (hO.now hw (n := 0) Z) (i := 0) om (j := 0) Z)) (oA hH Z (zt (seq (zr (oM hH Z (zA hH Z Z (x3 T.yV Z Z (hO.now hH (n := 0) Z).is om) (zA hH Z Z (yA T.yV Z (Rd.from (hO.now hH (n := 0) Z) (lo := 1) om).is) (oM hH Z (zt ?_))))))))))))))
 refine block (loop (S := Nat) (fun k => [(14, (.int .i64 (k : Int))), (5, (.int .i64 (bestTo (Sf.late l i) o k))), (1, (.func (.func 97) #[] #[(.pointer (some ⟨b1, 0, none⟩)), (.pointer (some ⟨b2, 0, none⟩))])), (4, (.int .i64 0)), (12, (cutv vo 1 1 o.length)), (13, (.int .i64 ((o.drop 1).length : Int)))]) (fun k w1 => Heap [base w] w1 ∧ k ≤ (o.drop 1).length) (fun k => (o.drop 1).length - k) (0) (uC Z (uC Z (uC Z (uC Z (uC Z (uC Z (Sub.nil _))))))) ?_ ?_)
 ·exact ⟨hH, by omega⟩
 rintro k w1 ⟨hH2, hk⟩
 refine zr (zA hH2 Z Z (yK Z Z) (zt (seq ?_)))
 by_cases hc3 : (k : Int) < ((o.drop 1).length : Int)
 ·refine zO Z (dT hc3) (skip (zP (seq (block (zr (zA hH2 Z Z (zS T.yV Z Z (Rd.from (hO.now hH2 (n := 0) Z) (lo := 1) om).is om) (zA hH2 Z Z (zF T.yU Z (fun _ hw => Rd.at (Rd.from (hO.now hw (n := 0) Z) (lo := 1) om) (i := (k : Int)) om (j := 0) Z)) (oA hH2 Z (zs (oM hH2 Z (oM hH2 Z (oM hH2 Z (zN Z Z Z hH2 (c97 (kb.now hH2 (n := 0) Z) (by first | omega | assumption | (simp only [List.length_set, List.length_replicate]; done) | (simp only [List.length_set]; omega)) (h0.now hH2 (n := 0) Z) om om (k1.now hH2 (n := 0) Z) (k2.now hH2 (n := 0) Z)) (fun w4 hH5 => (zt ?_)))))))))))))))
  by_cases hc6 : Sf.late l i (nth (o.drop 1) (k : Int)) (bestTo (Sf.late l i) o k) = true
  ·have hp : Sf.late l i (nth (o.drop 1) (k : Int)) (bestTo (Sf.late l i) o k) = true := hc6
   refine zO Z hc6 (region (oM hH5 Z (oA hH5 Z (zD (yB (zP (region (zA hH5 Z Z (zX Z Z om) (oM hH5 Z (zD (yY (k + 1) (uC Z (Sub.cons (by first | (rw [uP hp]; rfl) | (rw [vT hp]; rfl)) (uC Z (uC Z (uC Z (uC Z (Sub.nil _))))))) ?_ ?_)))))))))))
   ·exact ⟨hH5, by omega⟩
   ·first | (dsimp only; omega) | (show _ < _; omega)
  have hp : Sf.late l i (nth (o.drop 1) (k : Int)) (bestTo (Sf.late l i) o k) = false := (Bool.eq_false_iff.2 hc6)
  refine zM Z (Bool.eq_false_iff.2 hc6) (skip (yB (zP (region (zA hH5 Z Z (zX Z Z om) (oM hH5 Z (zD (yY (k + 1) (uC Z (Sub.cons (by first | (rw [uP hp]; rfl) | (rw [vT hp]; rfl)) (uC Z (uC Z (uC Z (uC Z (Sub.nil _))))))) ?_ ?_))))))))
  ·exact ⟨hH5, by omega⟩
  ·first | (dsimp only; omega) | (show _ < _; omega)
 refine zM Z (dF hc3) (exit (yX (xF (z7 (zu (oM hH2 Z (oA hH2 Z (zt (ret (fin hH2 (fun w' hf => (yN Z (rt Z))) (fun w' hf => ?_)))))))))))
 have hk2 : k = o.length - 1 := by omega
 subst hk2; rfl
end Go.Fip
namespace Go.Fip
open Go.Proofs Go.RowKit
theorem c35 {bb mb : Nat} {room : Int} {v : Value} {C : List Int} {w : World} (kb : Bx bb 148 (seg [.int .i64 room, v] C [.map (some mb)]) w) (hC : C.length = 9) {l : List Int} (h0 : Rd encI 1 v l w) (hn : l.length ≤ 16) {rule : Int} (hr : 1 ≤ room ∧ room ≤ 6)  :
  Fn Tryz.prog 35 [(.pointer (some ⟨bb, 0, none⟩)), (.int .i64 rule)].toArray w (fun u w => ∃ p q, u = .tuple #[p, q] ∧ Own 3 1 encI p (Sf.runTo room rule l l.length).out w ∧ Own 3 1 encI q (Sf.runTo room rule l l.length).mis w) := by
 refine fz Tryz.func35 Z kz Z Z (fun hH => (zr (oA hH Z (oA hH Z (zt (scope (zr (oA hH Z (oA hH Z (oA hH Z (zs (oM hH Z (zA hH Z Z (vB Z Z) (yC (z := (.nilFunc)) (fun _ => by kernel_rfl) Z Z hH (fun b1 w2 hH3 => (zU (n := 0) (j := 0) (us := [(.func (.func 92) #[(.pointer (some ⟨bb, 0, none⟩))] #[])]) Z Z hH3 Z T.zCa Z Z Z (by rfl) (fun w4 hH5 => (zD ?_))))))))))))))))))
 refine zP (seq (label (zP (seq (zr (oM hH5 Z (zA hH5 Z Z (yQ Z) (zA hH5 Z Z (zJ T.vX Z) (zA hH5 Z Z (zJ T.vP Z) (zA hH5 Z Z (xV T.xK Z (by rfl) Z (fun _ hw => (kb.now hw (n := 1) Z))) (zA hH5 Z Z (yA T.yV Z (h0.now hH5 (n := 1) Z).is) (oM hH5 Z (zt (block ?_))))))))))))))
 have hH6 := uE (enc := encI) 3 1 hH5
 have hH7 := uE (enc := encI) 3 1 hH6
 have hH8 := uE (enc := encI) 3 1 hH7
 refine loop (S := Nat × Value × Nat × Nat × Value × Nat × Nat × Value × Nat × Nat) (fun (k, v_6, lo_6, hi_6, v_7, lo_7, hi_7, v_8, lo_8, hi_8) => [(22, (.int .i64 (k : Int))), (6, v_6), (7, v_7), (8, v_8), (0, (.pointer (some ⟨bb, 0, none⟩))), (1, (.int .i64 rule)), (4, (.slice none 0 0)), (5, (.slice none 0 0)), (9, (.pointer (some ⟨b1, 0, none⟩))), (20, v), (21, (.int .i64 (l.length : Int)))]) (fun (k, v_6, lo_6, hi_6, v_7, lo_7, hi_7, v_8, lo_8, hi_8) w1 => Heap [ow lo_8 hi_8 3 1 encI v_8 ((Sf.runTo room rule l k).on), ow lo_7 hi_7 3 1 encI v_7 ((Sf.runTo room rule l k).mis), ow lo_6 hi_6 3 1 encI v_6 ((Sf.runTo room rule l k).out), bx b1 143 [(.func (.func 92) #[(.pointer (some ⟨bb, 0, none⟩))] #[])], base w] w1 ∧ k ≤ l.length) (fun (k, v_6, lo_6, hi_6, v_7, lo_7, hi_7, v_8, lo_8, hi_8) => l.length - k) (0, (.slice none 0 0), w4.heap.size, w4.heap.size, (.slice none 0 0), w4.heap.size, w4.heap.size, (.slice none 0 0), w4.heap.size, w4.heap.size) (uC Z (uC Z (uC Z (uC Z (uC Z (uC Z (uC Z (uC Z (uC Z (uC Z (uC Z (Sub.nil _)))))))))))) ?_ ?_
 ·exact ⟨(Heap.y5 (n := 0) (Heap.y5 (n := 1) (Heap.y5 (n := 2) hH8 Z (Z)) Z (Z)) Z (Z)), by omega⟩
 rintro ⟨k, v_6, lo_6, hi_6, v_7, lo_7, hi_7, v_8, lo_8, hi_8⟩ w9 ⟨hH10, hk⟩
 obtain ⟨hl1, hl2, hl3⟩ := Sf.run_len (room := room) (rule := rule) (l := l) hr.1 k
 refine zr (zA hH10 Z Z (yK Z Z) (zt (seq ?_)))
 by_cases hc11 : (k : Int) < (l.length : Int)
 ·refine zO Z (dT hc11) (skip (zP (seq (block (zr (oM hH10 Z (zA hH10 Z Z (zS T.yV Z Z (h0.now hH10 (n := 4) Z).is om) (zA hH10 Z Z (zF T.yU Z (fun _ hw => Rd.at (h0.now hw (n := 4) Z) (i := (k : Int)) om (j := 0) Z)) (yC (z := (.int .i64 0)) (fun _ => by kernel_rfl) Z Z hH10 (fun b12 w13 hH14 => (zU (n := 0) (j := 0) Z Z hH14 Z T.sz3 Z Z Z (by rfl) (fun w15 hH16 => (oA hH16 Z (zt (seq (seq ?_))))))))))))))))
  have hpl := S.place_lt (Sf.runTo room rule l k).on (nth l (k : Int))
  refine region (oM hH16 Z (oM hH16 Z (zN Z Z Z hH16 (c93 (Heap.yO T.zC hH16 (n := 1) Z) om) (fun w17 hH18 => (oA hH18 Z (zs (oM hH18 Z (zA hH18 Z Z (vQ Z Z) (zt ?_)))))))))
  by_cases hc19 : 0 ≤ (S.place ((Sf.runTo room rule l k).on) (nth l (k : Int)))
  ·have hat : 0 ≤ (S.place (Sf.runTo room rule l k).on (nth l (k : Int))) := by omega
   refine zO Z (dT hc19) (seq (zr (oM hH18 Z (zA hH18 Z Z (y6 Z Z) (zt ?_)))))
   by_cases hc20 : rule = 2
   ·have hr2 : rule = 2 := by omega
    have htd : ((Sf.runTo room rule l k).on.take (S.place (Sf.runTo room rule l k).on (nth l (k : Int))).toNat).length = (S.place (Sf.runTo room rule l k).on (nth l (k : Int))).toNat := by rw [List.length_take]; omega
    have hdd : ((Sf.runTo room rule l k).on.drop ((S.place (Sf.runTo room rule l k).on (nth l (k : Int))).toNat + 1)).length = (Sf.runTo room rule l k).on.length - ((S.place (Sf.runTo room rule l k).on (nth l (k : Int))).toNat + 1) := List.length_drop
    refine zO Z (dT hc20) (region (oM hH18 Z (zA hH18 Z Z (x5 (show (S.place (Sf.runTo room rule l k).on (nth l (k : Int))) = (((S.place (Sf.runTo room rule l k).on (nth l (k : Int))).toNat : Nat) : Int) by omega) (y9 Z)) (oM hH18 Z (zA hH18 Z Z (x5 (show (S.place (Sf.runTo room rule l k).on (nth l (k : Int))) + 1 = (((S.place (Sf.runTo room rule l k).on (nth l (k : Int))).toNat + 1 : Nat) : Int) by omega) (zX Z Z om)) ?_)))))
    obtain ⟨g21, hgb22, hgl23⟩ := Ow.blk (show Ow _ _ _ _ _ _ _ _ from hH18.get (n := 1) rfl) (by first | assumption | omega)
    refine x7 (g := g21) (n := 1) Z Z Z hH18 Z hgl23 ((c94 (i := (S.place (Sf.runTo room rule l k).on (nth l (k : Int))).toNat) (j := ((S.place (Sf.runTo room rule l k).on (nth l (k : Int))).toNat + 1)) (Heap.own hH18 (n := 1) Z) hgb22 om om om)) (fun u26 w24 hH25 hv27 => ?_)
    have hH28 := Heap.vA hH25 (n := 1) Z
    refine oM hH28 Z (z8 T.zC [nth l (k : Int)] Z (fun w => by kernel_rfl) hH28 (fun u29 lo31 hi32 w30 hH33 => (yF (n := 2) T.zC Z Z Z hH33 Z (Heap.yO T.zC hH33 (n := 0) Z) om2 (fun u34 lo36 hi37 w35 hH38 => (oA hH38 Z (zs (oM hH38 Z (z8 T.zC [0] Z (fun w => by kernel_rfl) hH38 (fun u39 lo41 hi42 w40 hH43 => (yF (n := 5) T.zC Z Z Z hH43 Z (Heap.yO T.zC hH43 (n := 0) Z) om2 (fun u44 lo46 hi47 w45 hH48 => (oA hH48 Z (zt (exit (yX (z7 (zP (region (zA hH48 Z Z (zX Z Z om) (oM hH48 Z (zD ?_)))))))))))))))))))))
    have hH49 := (hH48.sub (sC (sC (sC sR))))
    refine yY (k + 1, u44, lo46, hi47, v_7, lo_7, hi_7, u34, lo36, hi37) (uC Z (uC Z (uC Z (uC Z (uC Z (uC Z (uC Z (uC Z (uC Z (uC Z (uC Z (Sub.nil _)))))))))))) ?_ ?_
    ·exact ⟨(Heap.y5 (n := 0) (Heap.y5 (n := 1) (Heap.y5 (n := 2) hH49 Z (by first | (rw [Sf.run_hit2 hat hr2]; done) | (rw [Sf.run_hit hat hr2]; done) | (rw [Sf.run_room hna hnf]; done) | (rw [Ps.sorted_len, ← Sf.off_3 hr3, ← Sf.rest_3 hr3, Sf.run_full hna hf]; done) | (rw [Ps.sorted_len, ← Sf.off_3 hr3, Sf.run_full hna hf]; done) | (rw [← Sf.off_n hr3 (l := l) (i := (k : Int)), ← Sf.rest_n hr3, Sf.run_full hna hf]; done) | (rw [← Sf.off_n hr3 (l := l) (i := (k : Int)), Sf.run_full hna hf]; done) | (rw [Sf.run_full hna hf]; done))) Z (by first | (rw [Sf.run_hit2 hat hr2]; done) | (rw [Sf.run_hit hat hr2]; done) | (rw [Sf.run_room hna hnf]; done) | (rw [Ps.sorted_len, ← Sf.off_3 hr3, ← Sf.rest_3 hr3, Sf.run_full hna hf]; done) | (rw [Ps.sorted_len, ← Sf.off_3 hr3, Sf.run_full hna hf]; done) | (rw [← Sf.off_n hr3 (l := l) (i := (k : Int)), ← Sf.rest_n hr3, Sf.run_full hna hf]; done) | (rw [← Sf.off_n hr3 (l := l) (i := (k : Int)), Sf.run_full hna hf]; done) | (rw [Sf.run_full hna hf]; done))) Z (by first | (rw [Sf.run_hit2 hat hr2]; done) | (rw [Sf.run_hit hat hr2]; done) | (rw [Sf.run_room hna hnf]; done) | (rw [Ps.sorted_len, ← Sf.off_3 hr3, ← Sf.rest_3 hr3, Sf.run_full hna hf]; done) | (rw [Ps.sorted_len, ← Sf.off_3 hr3, Sf.run_full hna hf]; done) | (rw [← Sf.off_n hr3 (l := l) (i := (k : Int)), ← Sf.rest_n hr3, Sf.run_full hna hf]; done) | (rw [← Sf.off_n hr3 (l := l) (i := (k : Int)), Sf.run_full hna hf]; done) | (rw [Sf.run_full hna hf]; done))), by omega⟩
    ·first | (dsimp only; omega) | (show _ < _; omega)
   have hr2 : ¬ rule = 2 := by omega
   refine zM Z (dF hc20) (skip (zu (oM hH18 Z (z8 T.zC [0] Z (fun w => by kernel_rfl) hH18 (fun u50 lo52 hi53 w51 hH54 => (yF (n := 4) T.zC Z Z Z hH54 Z (Heap.yO T.zC hH54 (n := 0) Z) om2 (fun u55 lo57 hi58 w56 hH59 => (oA hH59 Z (zt (exit (yX (z7 (zP (region (zA hH59 Z Z (zX Z Z om) (oM hH59 Z (zD ?_)))))))))))))))))
   have hH60 := (hH59.sub (sC (sC sR)))
   refine yY (k + 1, u55, lo57, hi58, v_7, lo_7, hi_7, v_8, lo_8, hi_8) (uC Z (uC Z (uC Z (uC Z (uC Z (uC Z (uC Z (uC Z (uC Z (uC Z (uC Z (Sub.nil _)))))))))))) ?_ ?_
   ·exact ⟨(Heap.y5 (n := 0) (Heap.y5 (n := 1) (Heap.y5 (n := 2) hH60 Z (by first | (rw [Sf.run_hit2 hat hr2]; done) | (rw [Sf.run_hit hat hr2]; done) | (rw [Sf.run_room hna hnf]; done) | (rw [Ps.sorted_len, ← Sf.off_3 hr3, ← Sf.rest_3 hr3, Sf.run_full hna hf]; done) | (rw [Ps.sorted_len, ← Sf.off_3 hr3, Sf.run_full hna hf]; done) | (rw [← Sf.off_n hr3 (l := l) (i := (k : Int)), ← Sf.rest_n hr3, Sf.run_full hna hf]; done) | (rw [← Sf.off_n hr3 (l := l) (i := (k : Int)), Sf.run_full hna hf]; done) | (rw [Sf.run_full hna hf]; done))) Z (by first | (rw [Sf.run_hit2 hat hr2]; done) | (rw [Sf.run_hit hat hr2]; done) | (rw [Sf.run_room hna hnf]; done) | (rw [Ps.sorted_len, ← Sf.off_3 hr3, ← Sf.rest_3 hr3, Sf.run_full hna hf]; done) | (rw [Ps.sorted_len, ← Sf.off_3 hr3, Sf.run_full hna hf]; done) | (rw [← Sf.off_n hr3 (l := l) (i := (k : Int)), ← Sf.rest_n hr3, Sf.run_full hna hf]; done) | (rw [← Sf.off_n hr3 (l := l) (i := (k : Int)), Sf.run_full hna hf]; done) | (rw [Sf.run_full hna hf]; done))) Z (by first | (rw [Sf.run_hit2 hat hr2]; done) | (rw [Sf.run_hit hat hr2]; done) | (rw [Sf.run_room hna hnf]; done) | (rw [Ps.sorted_len, ← Sf.off_3 hr3, ← Sf.rest_3 hr3, Sf.run_full hna hf]; done) | (rw [Ps.sorted_len, ← Sf.off_3 hr3, Sf.run_full hna hf]; done) | (rw [← Sf.off_n hr3 (l := l) (i := (k : Int)), ← Sf.rest_n hr3, Sf.run_full hna hf]; done) | (rw [← Sf.off_n hr3 (l := l) (i := (k : Int)), Sf.run_full hna hf]; done) | (rw [Sf.run_full hna hf]; done))), by omega⟩
   ·first | (dsimp only; omega) | (show _ < _; omega)
  have hna : ¬ 0 ≤ (S.place (Sf.runTo room rule l k).on (nth l (k : Int))) := by omega
  refine zM Z (dF hc19) (skip (zu (oM hH18 Z (zA hH18 Z Z (zF T.yU Z (cw (n := 0) Z Z)) (z8 T.zC [(k : Int)] Z (fun w => by kernel_rfl) hH18 (fun u61 lo63 hi64 w62 hH65 => (yF (n := 3) T.zC Z Z Z hH65 Z (Heap.yO T.zC hH65 (n := 0) Z) om2 (fun u66 lo68 hi69 w67 hH70 => (oA hH70 Z (zs (yC (z := (.int .i64 0)) (fun _ => by kernel_rfl) Z Z hH70 (fun b71 w72 hH73 => (zU (n := 0) (j := 0) Z Z hH73 Z T.sz3 Z Z Z (by rfl) (fun w74 hH75 => (zt (seq (zr (oM hH75 Z ?_))))))))))))))))))
  refine zA hH75 Z Z (yA T.yV Z (Heap.yO T.zC hH75 (n := 3) Z).is) (oM hH75 Z (zA hH75 Z Z (yQ Z) (zA hH75 Z Z (zJ T.vX Z) (zA hH75 Z Z (zJ T.Y2 Z) (zA hH75 Z Z (xV T.yU Z (by rfl) Z (fun _ hw => (kb.now hw (n := 7) Z))) (zA hH75 Z Z (y6 Z Z) (zt ?_)))))))
  by_cases hc76 : (((Sf.runTo room rule l k).on).length : Int) = room
  ·have hf : ((Sf.runTo room rule l k).on.length : Int) = room := by omega
   refine zO Z (dT hc76) (zr (oM hH75 Z (zA hH75 Z Z (zS T.yV Z Z (Heap.yO T.zC hH75 (n := 3) Z).is om) (zA hH75 Z Z (zF T.yU Z (fun _ hw => Rd.at (Heap.yO T.zC hw (n := 3) Z) (i := 0) om (j := 0) Z)) (zU (n := 0) (j := 0) Z Z hH75 Z T.sz3 Z Z Z (by rfl) (fun w77 hH78 => (zt (seq (zr (oM hH78 Z (zA hH78 Z Z (y6 Z Z) (zt ?_))))))))))))
   by_cases hc79 : rule = 3
   ·have hr3 : rule = 3 := by omega
    have hsl : (Ps.sorted (fun x y : Int => decide (x < y)) (Sf.runTo room rule l k).on).length = (Sf.runTo room rule l k).on.length := Ps.sorted_len
    refine zO Z (dT hc79) (zr (oM hH78 Z ?_))
    obtain ⟨g80, hgb81, hgl82⟩ := Ow.blk (show Ow _ _ _ _ _ _ _ _ from hH78.get (n := 3) rfl) (by first | assumption | omega | (simp; done) | decide)
    refine x7 (g := g80) (n := 3) Z Z Z hH78 Z hgl82 (c95 (Heap.own hH78 (n := 3) Z) hgb81 (by first | omega | (simp; done)) (by first | omega | (simp; done))) (fun u85 w83 hH84 hv86 => ?_)
    obtain ⟨rfl, -⟩ := hv86
    have hH87 := Heap.vA (Heap.weaken hH84 (n := 3) Z (φ := Own 3 1 encI v_8 (Ps.sorted (fun x y : Int => decide (x < y)) ((Sf.runTo room rule l k).on))) (fun w' h => h.2)) (n := 3) (by rfl)
    refine zq (oM hH87 Z (zA hH87 Z Z (vB Z Z) (zN Z Z Z hH87 (c96 (kb.now hH87 (n := 7) Z) (by first | omega | assumption | (simp only [List.length_set, List.length_replicate]; done) | (simp only [List.length_set]; omega)) (h0.now hH87 (n := 7) Z) om om (Heap.xS hH87 (n := 6) Z) (Heap.xS hH87 (n := 2) Z) (Heap.yO T.zC hH87 (n := 3) Z) (by first | omega | (rw [Ps.sorted_len]; omega)) (by first | omega | (rw [Ps.sorted_len]; omega))) (fun w88 hH89 => (zU (n := 0) (j := 0) Z Z hH89 Z T.sz3 Z Z Z (by rfl) (fun w90 hH91 => (zq (oM hH91 Z (zA hH91 Z Z (vB Z Z) ?_)))))))))
    obtain ⟨g92, hgb93, hgl94⟩ := Ow.blk (show Ow _ _ _ _ _ _ _ _ from hH91.get (n := 3) rfl) (by first | assumption | omega)
    refine x7 (g := g92) (n := 3) Z Z Z hH91 Z hgl94 (zCu (Heap.own hH91 (n := 3) Z) hgb93 (Heap.xS hH91 (n := 0) Z) (Heap.ne hH91 (n := 3) (m := 0) Z Z hgl94 (by decide)) om) (fun u97 w95 hH96 hv98 => ?_)
    have hH99 := Heap.vA hH96 (n := 3) Z
    refine oA hH99 Z (zs (oM hH99 Z (oM hH99 Z (z8 T.zC [nth l (k : Int)] Z (fun w => by kernel_rfl) hH99 (fun u100 lo102 hi103 w101 hH104 => (yF (n := 4) T.zC Z Z Z hH104 Z (Heap.yO T.zC hH104 (n := 0) Z) (by first | omega | (simp only [List.length_append, List.length_cons, List.length_nil]; omega) | (refine Nat.le_trans (Nat.add_le_add_right (List.length_filter_le _ _) _) ?_; simp only [List.length_cons, List.length_nil]; omega)) (fun u105 lo107 hi108 w106 hH109 => ?_)))))))
    refine oA hH109 Z (zq (oM hH109 Z (zA hH109 Z Z (zF T.yU Z (cw (n := 1) Z Z)) (z8 T.zC [(bestTo (Sf.late l (k : Int)) (Ps.sorted (fun x y : Int => decide (x < y)) ((Sf.runTo room rule l k).on)) ((Ps.sorted (fun x y : Int => decide (x < y)) ((Sf.runTo room rule l k).on)).length - 1))] Z (fun w => by kernel_rfl) hH109 (fun u110 lo112 hi113 w111 hH114 => (yF (n := 7) T.zC Z Z Z hH114 Z (Heap.yO T.zC hH114 (n := 0) Z) om2 (fun u115 lo117 hi118 w116 hH119 => (oA hH119 Z (zD (yB (zP (region (zA hH119 Z Z (zX Z Z om) (oM hH119 Z (zD ?_)))))))))))))))
    have hH120 := (hH119.sub (sC (sC (sC (sC (sC sR))))))
    refine yY (k + 1, u115, lo117, hi118, u66, lo68, hi69, u105, lo107, hi108) (uC Z (uC Z (uC Z (uC Z (uC Z (uC Z (uC Z (uC Z (uC Z (uC Z (uC Z (Sub.nil _)))))))))))) ?_ ?_
    ·exact ⟨(Heap.y5 (n := 0) (Heap.y5 (n := 1) (Heap.y5 (n := 2) hH120 Z (by first | (rw [Sf.run_hit2 hat hr2]; done) | (rw [Sf.run_hit hat hr2]; done) | (rw [Sf.run_room hna hnf]; done) | (rw [Ps.sorted_len, ← Sf.off_3 hr3, ← Sf.rest_3 hr3, Sf.run_full hna hf]; done) | (rw [Ps.sorted_len, ← Sf.off_3 hr3, Sf.run_full hna hf]; done) | (rw [← Sf.off_n hr3 (l := l) (i := (k : Int)), ← Sf.rest_n hr3, Sf.run_full hna hf]; done) | (rw [← Sf.off_n hr3 (l := l) (i := (k : Int)), Sf.run_full hna hf]; done) | (rw [Sf.run_full hna hf]; done))) Z (by first | (rw [Sf.run_hit2 hat hr2]; done) | (rw [Sf.run_hit hat hr2]; done) | (rw [Sf.run_room hna hnf]; done) | (rw [Ps.sorted_len, ← Sf.off_3 hr3, ← Sf.rest_3 hr3, Sf.run_full hna hf]; done) | (rw [Ps.sorted_len, ← Sf.off_3 hr3, Sf.run_full hna hf]; done) | (rw [← Sf.off_n hr3 (l := l) (i := (k : Int)), ← Sf.rest_n hr3, Sf.run_full hna hf]; done) | (rw [← Sf.off_n hr3 (l := l) (i := (k : Int)), Sf.run_full hna hf]; done) | (rw [Sf.run_full hna hf]; done))) Z (by first | (rw [Sf.run_hit2 hat hr2]; done) | (rw [Sf.run_hit hat hr2]; done) | (rw [Sf.run_room hna hnf]; done) | (rw [Ps.sorted_len, ← Sf.off_3 hr3, ← Sf.rest_3 hr3, Sf.run_full hna hf]; done) | (rw [Ps.sorted_len, ← Sf.off_3 hr3, Sf.run_full hna hf]; done) | (rw [← Sf.off_n hr3 (l := l) (i := (k : Int)), ← Sf.rest_n hr3, Sf.run_full hna hf]; done) | (rw [← Sf.off_n hr3 (l := l) (i := (k : Int)), Sf.run_full hna hf]; done) | (rw [Sf.run_full hna hf]; done))), by omega⟩
    ·first | (dsimp only; omega) | (show _ < _; omega)
   have hr3 : ¬ rule = 3 := by omega
   refine zM Z (dF hc79) (skip (zP (region (oM hH78 Z (zA hH78 Z Z (vB Z Z) ?_)))))
   obtain ⟨g121, hgb122, hgl123⟩ := Ow.blk (show Ow _ _ _ _ _ _ _ _ from hH78.get (n := 3) rfl) (by first | assumption | omega)
   refine x7 (g := g121) (n := 3) Z Z Z hH78 Z hgl123 (zCu (Heap.own hH78 (n := 3) Z) hgb122 (Heap.xS hH78 (n := 0) Z) (Heap.ne hH78 (n := 3) (m := 0) Z Z hgl123 (by decide)) om) (fun u126 w124 hH125 hv127 => ?_)
   have hH128 := Heap.vA hH125 (n := 3) Z
   refine oA hH128 Z (zs (oM hH128 Z (oM hH128 Z (z8 T.zC [nth l (k : Int)] Z (fun w => by kernel_rfl) hH128 (fun u129 lo131 hi132 w130 hH133 => (yF (n := 4) T.zC Z Z Z hH133 Z (Heap.yO T.zC hH133 (n := 0) Z) (by first | omega | (simp only [List.length_append, List.length_cons, List.length_nil]; omega) | (refine Nat.le_trans (Nat.add_le_add_right (List.length_filter_le _ _) _) ?_; simp only [List.length_cons, List.length_nil]; omega)) (fun u134 lo136 hi137 w135 hH138 => ?_)))))))
   refine oA hH138 Z (zq (oM hH138 Z (zA hH138 Z Z (zF T.yU Z (cw (n := 1) Z Z)) (z8 T.zC [nth ((Sf.runTo room rule l k).on) 0] Z (fun w => by kernel_rfl) hH138 (fun u139 lo141 hi142 w140 hH143 => (yF (n := 7) T.zC Z Z Z hH143 Z (Heap.yO T.zC hH143 (n := 0) Z) om2 (fun u144 lo146 hi147 w145 hH148 => (oA hH148 Z (zD (yB (zP (region (zA hH148 Z Z (zX Z Z om) (oM hH148 Z (zD ?_)))))))))))))))
   have hH149 := (hH148.sub (sC (sC (sC (sC (sC sR))))))
   refine yY (k + 1, u144, lo146, hi147, u66, lo68, hi69, u134, lo136, hi137) (uC Z (uC Z (uC Z (uC Z (uC Z (uC Z (uC Z (uC Z (uC Z (uC Z (uC Z (Sub.nil _)))))))))))) ?_ ?_
   ·exact ⟨(Heap.y5 (n := 0) (Heap.y5 (n := 1) (Heap.y5 (n := 2) hH149 Z (by first | (rw [Sf.run_hit2 hat hr2]; done) | (rw [Sf.run_hit hat hr2]; done) | (rw [Sf.run_room hna hnf]; done) | (rw [Ps.sorted_len, ← Sf.off_3 hr3, ← Sf.rest_3 hr3, Sf.run_full hna hf]; done) | (rw [Ps.sorted_len, ← Sf.off_3 hr3, Sf.run_full hna hf]; done) | (rw [← Sf.off_n hr3 (l := l) (i := (k : Int)), ← Sf.rest_n hr3, Sf.run_full hna hf]; done) | (rw [← Sf.off_n hr3 (l := l) (i := (k : Int)), Sf.run_full hna hf]; done) | (rw [Sf.run_full hna hf]; done))) Z (by first | (rw [Sf.run_hit2 hat hr2]; done) | (rw [Sf.run_hit hat hr2]; done) | (rw [Sf.run_room hna hnf]; done) | (rw [Ps.sorted_len, ← Sf.off_3 hr3, ← Sf.rest_3 hr3, Sf.run_full hna hf]; done) | (rw [Ps.sorted_len, ← Sf.off_3 hr3, Sf.run_full hna hf]; done) | (rw [← Sf.off_n hr3 (l := l) (i := (k : Int)), ← Sf.rest_n hr3, Sf.run_full hna hf]; done) | (rw [← Sf.off_n hr3 (l := l) (i := (k : Int)), Sf.run_full hna hf]; done) | (rw [Sf.run_full hna hf]; done))) Z (by first | (rw [Sf.run_hit2 hat hr2]; done) | (rw [Sf.run_hit hat hr2]; done) | (rw [Sf.run_room hna hnf]; done) | (rw [Ps.sorted_len, ← Sf.off_3 hr3, ← Sf.rest_3 hr3, Sf.run_full hna hf]; done) | (rw [Ps.sorted_len, ← Sf.off_3 hr3, Sf.run_full hna hf]; done) | (rw [← Sf.off_n hr3 (l := l) (i := (k : Int)), ← Sf.rest_n hr3, Sf.run_full hna hf]; done) | (rw [← Sf.off_n hr3 (l := l) (i := (k : Int)), Sf.run_full hna hf]; done) | (rw [Sf.run_full hna hf]; done))), by omega⟩
   ·first | (dsimp only; omega) | (show _ < _; omega)
  have hnf : ¬ ((Sf.runTo room rule l k).on.length : Int) = room := by omega
  refine zM Z (dF hc76) (skip (zu (oM hH75 Z (oM hH75 Z (z8 T.zC [nth l (k : Int)] Z (fun w => by kernel_rfl) hH75 (fun u150 lo152 hi153 w151 hH154 => (yF (n := 4) T.zC Z Z Z hH154 Z (Heap.yO T.zC hH154 (n := 0) Z) (by first | omega | (simp only [List.length_append, List.length_cons, List.length_nil]; omega) | (refine Nat.le_trans (Nat.add_le_add_right (List.length_filter_le _ _) _) ?_; simp only [List.length_cons, List.length_nil]; omega)) (fun u155 lo157 hi158 w156 hH159 => ?_))))))))
  refine oA hH159 Z (zq (oM hH159 Z (zA hH159 Z Z (zF T.yU Z (cw (n := 1) Z Z)) (z8 T.zC [0] Z (fun w => by kernel_rfl) hH159 (fun u160 lo162 hi163 w161 hH164 => (yF (n := 7) T.zC Z Z Z hH164 Z (Heap.yO T.zC hH164 (n := 0) Z) om2 (fun u165 lo167 hi168 w166 hH169 => (oA hH169 Z (zD (yB (zP (region (zA hH169 Z Z (zX Z Z om) (oM hH169 Z (zD ?_)))))))))))))))
  have hH170 := (hH169.sub (sC (sC (sC (sC (sC sR))))))
  refine yY (k + 1, u165, lo167, hi168, u66, lo68, hi69, u155, lo157, hi158) (uC Z (uC Z (uC Z (uC Z (uC Z (uC Z (uC Z (uC Z (uC Z (uC Z (uC Z (Sub.nil _)))))))))))) ?_ ?_
  ·exact ⟨(Heap.y5 (n := 0) (Heap.y5 (n := 1) (Heap.y5 (n := 2) hH170 Z (by first | (rw [Sf.run_hit2 hat hr2]; done) | (rw [Sf.run_hit hat hr2]; done) | (rw [Sf.run_room hna hnf]; done) | (rw [Ps.sorted_len, ← Sf.off_3 hr3, ← Sf.rest_3 hr3, Sf.run_full hna hf]; done) | (rw [Ps.sorted_len, ← Sf.off_3 hr3, Sf.run_full hna hf]; done) | (rw [← Sf.off_n hr3 (l := l) (i := (k : Int)), ← Sf.rest_n hr3, Sf.run_full hna hf]; done) | (rw [← Sf.off_n hr3 (l := l) (i := (k : Int)), Sf.run_full hna hf]; done) | (rw [Sf.run_full hna hf]; done))) Z (by first | (rw [Sf.run_hit2 hat hr2]; done) | (rw [Sf.run_hit hat hr2]; done) | (rw [Sf.run_room hna hnf]; done) | (rw [Ps.sorted_len, ← Sf.off_3 hr3, ← Sf.rest_3 hr3, Sf.run_full hna hf]; done) | (rw [Ps.sorted_len, ← Sf.off_3 hr3, Sf.run_full hna hf]; done) | (rw [← Sf.off_n hr3 (l := l) (i := (k : Int)), ← Sf.rest_n hr3, Sf.run_full hna hf]; done) | (rw [← Sf.off_n hr3 (l := l) (i := (k : Int)), Sf.run_full hna hf]; done) | (rw [Sf.run_full hna hf]; done))) Z (by first | (rw [Sf.run_hit2 hat hr2]; done) | (rw [Sf.run_hit hat hr2]; done) | (rw [Sf.run_room hna hnf]; done) | (rw [Ps.sorted_len, ← Sf.off_3 hr3, ← Sf.rest_3 hr3, Sf.run_full hna hf]; done) | (rw [Ps.sorted_len, ← Sf.off_3 hr3, Sf.run_full hna hf]; done) | (rw [← Sf.off_n hr3 (l := l) (i := (k : Int)), ← Sf.rest_n hr3, Sf.run_full hna hf]; done) | (rw [← Sf.off_n hr3 (l := l) (i := (k : Int)), Sf.run_full hna hf]; done) | (rw [Sf.run_full hna hf]; done))), by omega⟩
  ·first | (dsimp only; omega) | (show _ < _; omega)
 refine zM Z (dF hc11) (exit (yX (xF (z7 (zu (oM hH10 Z (oM hH10 Z (oA hH10 Z (oA hH10 Z (zt (ret (JK ?_))))))))))))
 have hH171 := (hH10.sub (sC (sK (sK (sC sR)))))
 refine fin (hH171.front (n := 2) Z) (fun w' hf => (xI Z (rt Z) (rt Z))) (fun w' hf => ?_)
 have hk2 : k = l.length := by omega
 subst hk2; exact ⟨_, _, rfl, Heap.own hf (n := 1) rfl, Heap.own hf (n := 0) rfl⟩
end Go.Fip
namespace Go.Fip
open Go.Proofs Go.RowKit
theorem zEv {v : Value} {l : List Int} {room : Int} {w : World} (h0 : Rd encI 1 v l w) (hn : l.length ≤ 1000000) {rule : Int} (hc : Sf.ck room l = 0) (hr : 1 ≤ rule ∧ rule ≤ 3)  :
  Fn Tryz.prog 52 [(.agg #[(.int .i64 room), v]), (.int .i64 rule)].toArray w (fun u w => ∃ q, u = .tuple #[q, .int .i64 0] ∧ Own 3 1 encI q (Sf.runTo room rule l l.length).out w) := by
 refine fz Tryz.func52 Z kz Z Z (fun hH => ?_)
 have hday := Sf.ck_iff.1 hc
 have hd1 := hday.r1
 have hd2 := hday.r2
 have hd3 := hday.n
 obtain ⟨hl1, hl2, hl3⟩ := Sf.run_len (room := room) (rule := rule) (l := l) hd1 l.length
 have hrp : (List.replicate ((((Sf.runTo room rule l l.length).mis.length : Nat) : Int)).toNat (0 : Int)).length = (Sf.runTo room rule l l.length).mis.length := by simp
 refine zr (yW Z Z Z hH (fun b1 w2 hH3 => (oA hH3 Z (oA hH3 Z (zs (zA hH3 Z Z (zW (cs := [(.int .i64 room), v]) T.xZ Z Z (fun _ hw => Heap.yI hw (n := 0) Z (k := 0) Z)) (oM hH3 Z (y2 Z Z Z hH3 (zC0 (rule := rule) (h0.now hH3 (n := 1) Z) om hc hr) (fun u6 w4 lo7 hi8 hH5 hv9 => ?_)))))))))
 obtain ⟨bbD11, hu, hrowD11⟩ := hv9
 subst hu
 obtain ⟨mbD11, mmD11, hfullD11, hH10⟩ := Heap.X4 hH5 (n := 0) rfl (fun w' h => by obtain ⟨rb', e, h⟩ := h; cases e; exact h)
 refine oM hH10 Z (zA hH10 Z Z (zI Z Z) (zA hH10 Z Z (zI Z Z) (oA hH10 Z (oA hH10 Z (zt (seq (zr (oM hH10 Z (zA hH10 Z Z (yH Z Z) (zt (zM Z Z (skip (zu (oM hH10 Z (oM hH10 Z (y2 Z Z Z hH10 (c35 (rule := rule) (Heap.xS hH10 (n := 1) Z) (by first | omega | assumption | (simp only [List.length_set, List.length_replicate]; done) | (simp only [List.length_set]; omega)) (h0.now hH10 (n := 3) Z) om ⟨by omega, by omega⟩) (fun u14 w12 lo15 hi16 hH13 hv17 => ?_)))))))))))))))))
 obtain ⟨pR18, qR18, hu, -, -⟩ := hv17
 subst hu
 have hH19 := Heap.weaken hH13 (n := 0) Z (φ := Own 3 1 encI pR18 (Sf.runTo room rule l l.length).out) (fun w' h => by obtain ⟨p', q', e, h1, h2⟩ := h; cases e; exact h1)
 have hH20 := Heap.vA hH19 (n := 0) (by rfl)
 refine oM hH20 Z (zA hH20 Z Z (zI Z Z) (zA hH20 Z Z (zI Z Z) (oA hH20 Z (oA hH20 Z (zs (oM hH20 Z (oA hH20 Z (oA hH20 Z (zt (ret ?_))))))))))
 have hH21 := (hH20.sub (sK (sC (sC (sC sR)))))
 refine fin (hH21.front (n := 1) Z) (fun w' hf => (xI Z (rt Z) (rt Z))) (fun w' hf => ?_)
 exact ⟨_, Z, Heap.own hf (n := 0) Z⟩
theorem zAo {v : Value} {l : List Int} {room : Int} {w : World} (h0 : Rd encI 1 v l w) (hn : l.length ≤ 1000000) {rule : Int} (hc : Sf.ck room l = 0) (hr : 1 ≤ rule ∧ rule ≤ 3)  :
  Fn Tryz.prog 14 [(.agg #[(.int .i64 room), v]), (.int .i64 rule)].toArray w (fun u w => ∃ q, u = .tuple #[q, .int .i64 0] ∧ Own 3 1 encI q (Sf.runTo room rule l l.length).mis w) := by
 refine fz Tryz.func14 Z kz Z Z (fun hH => ?_)
 have hday := Sf.ck_iff.1 hc
 have hd1 := hday.r1
 have hd2 := hday.r2
 have hd3 := hday.n
 obtain ⟨hl1, hl2, hl3⟩ := Sf.run_len (room := room) (rule := rule) (l := l) hd1 l.length
 have hrp : (List.replicate ((((Sf.runTo room rule l l.length).mis.length : Nat) : Int)).toNat (0 : Int)).length = (Sf.runTo room rule l l.length).mis.length := by simp
 refine zr (yW Z Z Z hH (fun b1 w2 hH3 => (oA hH3 Z (oA hH3 Z (zs (zA hH3 Z Z (zW (cs := [(.int .i64 room), v]) T.xZ Z Z (fun _ hw => Heap.yI hw (n := 0) Z (k := 0) Z)) (oM hH3 Z (y2 Z Z Z hH3 (zC0 (rule := rule) (h0.now hH3 (n := 1) Z) om hc hr) (fun u6 w4 lo7 hi8 hH5 hv9 => ?_)))))))))
 obtain ⟨bbD11, hu, hrowD11⟩ := hv9
 subst hu
 obtain ⟨mbD11, mmD11, hfullD11, hH10⟩ := Heap.X4 hH5 (n := 0) rfl (fun w' h => by obtain ⟨rb', e, h⟩ := h; cases e; exact h)
 refine oM hH10 Z (zA hH10 Z Z (zI Z Z) (zA hH10 Z Z (zI Z Z) (oA hH10 Z (oA hH10 Z (zt (seq (zr (oM hH10 Z (zA hH10 Z Z (yH Z Z) (zt (zM Z Z (skip (zu (oM hH10 Z (oM hH10 Z (y2 Z Z Z hH10 (c35 (rule := rule) (Heap.xS hH10 (n := 1) Z) (by first | omega | assumption | (simp only [List.length_set, List.length_replicate]; done) | (simp only [List.length_set]; omega)) (h0.now hH10 (n := 3) Z) om ⟨by omega, by omega⟩) (fun u14 w12 lo15 hi16 hH13 hv17 => ?_)))))))))))))))))
 obtain ⟨pR18, qR18, hu, -, -⟩ := hv17
 subst hu
 have hH19 := Heap.weaken hH13 (n := 0) Z (φ := Own 3 1 encI qR18 (Sf.runTo room rule l l.length).mis) (fun w' h => by obtain ⟨p', q', e, h1, h2⟩ := h; cases e; exact h2)
 have hH20 := Heap.vA hH19 (n := 0) (by rfl)
 refine oM hH20 Z (zA hH20 Z Z (zI Z Z) (zA hH20 Z Z (zI Z Z) (oA hH20 Z (oA hH20 Z (zs (oM hH20 Z (zA hH20 Z Z (yA T.yV Z (Heap.yO T.zC hH20 (n := 0) Z).is) (qU T.zC (0 : Int) T.uO Z Z Z hH20 om om (fun u21 lo23 hi24 w22 hH25 => (oA hH25 Z (zs (oM hH25 Z (oM hH25 Z (VV (n := 0) T.zC Z Z Z hH25 Z (Heap.yO T.zC hH25 (n := 1) Z) om (fun w26 hH27 => (zt ?_))))))))))))))))
 refine zr (oM hH27 Z (oA hH27 Z (oA hH27 Z (zt (ret ?_)))))
 have hH28 := (hH27.sub (sK (sC (sC (sC (sC sR))))))
 refine fin (hH28.front (n := 1) Z) (fun w' hf => (xI Z (rt Z) (rt Z))) (fun w' hf => ?_)
 exact ⟨_, Z, by have h := Heap.own hf (n := 0) rfl; simpa using h⟩
theorem zE2 {v : Value} {l : List Int} {room : Int} {w : World} (h0 : Rd encI 1 v l w) (hn : l.length ≤ 1000000) {rule : Int} (hc : ¬ Sf.ck room l = 0)  :
  Fn Tryz.prog 14 [(.agg #[(.int .i64 room), v]), (.int .i64 rule)].toArray w (fun u _ => u = .tuple #[.slice none 0 0, .int .i64 (Sf.ck room l)]) := by
 refine fz Tryz.func14 Z kz Z Z (fun hH => (zr (yW Z Z Z hH (fun b1 w2 hH3 => (oA hH3 Z (oA hH3 Z (zs (zA hH3 Z Z (zW (cs := [(.int .i64 room), v]) T.xZ Z Z (fun _ hw => Heap.yI hw (n := 0) Z (k := 0) Z)) (oM hH3 Z (zN Z Z Z hH3 (zE7 (rule := rule) (h0.now hH3 (n := 1) Z) om hc) (fun w4 hH5 => (oM hH5 Z (zA hH5 Z Z (zI Z Z) (zA hH5 Z Z (zI Z Z) (oA hH5 Z (oA hH5 Z (zt (seq (seq ?_)))))))))))))))))))
 refine region (oM hH5 Z (zA hH5 Z Z (yH Z Z) (zt ?_)))
 have hc6 : ¬ ((Sf.ck room l) = 0) := hc
 refine zO Z (zG hc6) (zr (oM hH5 Z (oA hH5 Z (oA hH5 Z (zt (ret (z2 ?_)))))))
 have hH7 := (hH5.sub (sC sR))
 refine fin hH7 (fun w' hf => (xI Z (rt Z) (rt Z))) (fun w' hf => ?_)
 rfl
theorem zEx {v : Value} {l : List Int} {room : Int} {w : World} (h0 : Rd encI 1 v l w) (hn : l.length ≤ 1000000) {rule : Int} (hc : Sf.ck room l = 0) (hr : ¬ (1 ≤ rule ∧ rule ≤ 3))  :
  Fn Tryz.prog 14 [(.agg #[(.int .i64 room), v]), (.int .i64 rule)].toArray w (fun u _ => u = .tuple #[.slice none 0 0, .int .i64 2]) := by
 refine fz Tryz.func14 Z kz Z Z (fun hH => (zr (yW Z Z Z hH (fun b1 w2 hH3 => (oA hH3 Z (oA hH3 Z (zs (zA hH3 Z Z (zW (cs := [(.int .i64 room), v]) T.xZ Z Z (fun _ hw => Heap.yI hw (n := 0) Z (k := 0) Z)) (oM hH3 Z (zN Z Z Z hH3 (zD8 (rule := rule) (h0.now hH3 (n := 1) Z) om hc hr) (fun w4 hH5 => (oM hH5 Z (zA hH5 Z Z (zI Z Z) (zA hH5 Z Z (zI Z Z) (oA hH5 Z (oA hH5 Z (zt (seq (seq ?_)))))))))))))))))))
 refine region (oM hH5 Z (zA hH5 Z Z (yH Z Z) (zt (zO Z Z (zr (oM hH5 Z (oA hH5 Z (oA hH5 Z (zt (ret (z2 ?_)))))))))))
 have hH6 := (hH5.sub (sC sR))
 refine fin hH6 (fun w' hf => (xI Z (rt Z) (rt Z))) (fun w' hf => ?_)
 rfl
end Go.Fip
namespace Go.Fip
open Go.Proofs Go.RowKit
def Sf.fewest (room : Int) (l : List Int) : Int × Int := if Sf.ck room l = 0 then (((Sf.runTo room 3 l l.length).mis.length : Int), 0) else (0, Sf.ck room l)
theorem Sf.fewest_t {room : Int} {l : List Int} (h : Sf.ck room l = 0) : Sf.fewest room l = (((Sf.runTo room 3 l l.length).mis.length : Int), 0) := if_pos h
theorem Sf.fewest_f {room : Int} {l : List Int} (h : ¬ Sf.ck room l = 0) : Sf.fewest room l = (0, Sf.ck room l) := if_neg h
theorem zDu {v : Value} {l : List Int} {room : Int} {w : World} (h0 : Rd encI 1 v l w) (hn : l.length ≤ 1000000) (hc : Sf.ck room l = 0)  :
  Fn Tryz.prog 15 [(.agg #[(.int .i64 room), v])].toArray w (fun u _ => u = .tuple #[.int .i64 (Sf.fewest room l).1, .int .i64 (Sf.fewest room l).2]) := by
 refine fz Tryz.func15 Z kz Z Z (fun hH => ?_)
 obtain ⟨hl1, hl2, hl3⟩ := Sf.run_len (room := room) (rule := 3) (l := l) (Sf.ck_iff.1 hc).r1 l.length
 refine zr (yW Z Z Z hH (fun b1 w2 hH3 => (oA hH3 Z (oA hH3 Z (zs (zA hH3 Z Z (zW (cs := [(.int .i64 room), v]) T.xZ Z Z (fun _ hw => Heap.yI hw (n := 0) Z (k := 0) Z)) (y2 Z Z Z hH3 (zAo (rule := 3) (h0.now hH3 (n := 1) Z) om hc (by decide)) (fun u6 w4 lo7 hi8 hH5 hv9 => ?_))))))))
 obtain ⟨pR10, hu, -⟩ := hv9
 subst hu
 have hH11 := Heap.weaken hH5 (n := 0) Z (φ := Own 3 1 encI pR10 (Sf.runTo room 3 l l.length).mis) (fun w' h => by obtain ⟨p', e, h1⟩ := h; cases e; exact h1)
 have hH12 := Heap.vA hH11 (n := 0) (by rfl)
 refine oM hH12 Z (zA hH12 Z Z (zI Z Z) (zA hH12 Z Z (zI Z Z) (oA hH12 Z (oA hH12 Z (zs (oM hH12 Z (zA hH12 Z Z (yA T.yV Z (Heap.yO T.zC hH12 (n := 0) Z).is) (oM hH12 Z (oA hH12 Z (oA hH12 Z (zt (ret ?_))))))))))))
 have hH13 := (hH12.sub (sC (sC sR)))
 refine fin hH13 (fun w' hf => (xI Z (rt Z) (rt Z))) (fun w' hf => ?_)
 rw [Sf.fewest_t hc]; rfl
theorem zEd {v : Value} {l : List Int} {room : Int} {w : World} (h0 : Rd encI 1 v l w) (hn : l.length ≤ 1000000) (hc : ¬ Sf.ck room l = 0)  :
  Fn Tryz.prog 15 [(.agg #[(.int .i64 room), v])].toArray w (fun u _ => u = .tuple #[.int .i64 (Sf.fewest room l).1, .int .i64 (Sf.fewest room l).2]) := by
 refine fz Tryz.func15 Z kz Z Z (fun hH => (zr (yW Z Z Z hH (fun b1 w2 hH3 => (oA hH3 Z (oA hH3 Z (zs (zA hH3 Z Z (zW (cs := [(.int .i64 room), v]) T.xZ Z Z (fun _ hw => Heap.yI hw (n := 0) Z (k := 0) Z)) (zN Z Z Z hH3 (zE2 (rule := 3) (h0.now hH3 (n := 1) Z) om hc) (fun w4 hH5 => (oM hH5 Z (zA hH5 Z Z (zI Z Z) (zA hH5 Z Z (zI Z Z) (oA hH5 Z (oA hH5 Z (zs (oM hH5 Z ?_)))))))))))))))))
 refine zA hH5 Z Z (yA (n := 0) T.yV Z ⟨none, 0, Z, Nat.le_refl _, .inl ⟨Z, Z⟩⟩) (oM hH5 Z (oA hH5 Z (oA hH5 Z (zt (ret ?_)))))
 have hH6 := (hH5.sub (sC sR))
 refine fin hH6 (fun w' hf => (xI Z (rt Z) (rt Z))) (fun w' hf => ?_)
 rw [Sf.fewest_f hc]; rfl
theorem c15 {v : Value} {l : List Int} {room : Int} {w : World} (h0 : Rd encI 1 v l w) (hn : l.length ≤ 1000000) : Fn Tryz.prog 15 [(.agg #[(.int .i64 room), v])].toArray w (fun u _ => u = .tuple #[.int .i64 (Sf.fewest room l).1, .int .i64 (Sf.fewest room l).2]) := by
 by_cases hc : Sf.ck room l = 0
 ·exact zDu h0 hn hc
 ·exact zEd h0 hn hc
end Go.Fip
namespace Go.Fip
namespace Sf
def cpC (l p : List Int) : Nat → List Int
 | 0 => List.replicate 9 0
 | k + 1 => ((cpC l p k).set (nth p (k : Int)).toNat 0).set (nth l (k : Int)).toNat 1
def full (room : Int) (C : List Int) (x : Int) : Prop := ¬ 0 < nth C x ∧ sumTo C 9 = room
instance (room : Int) (C : List Int) (x : Int) : Decidable (full room C x) := by unfold full; infer_instance
def cpErr (room : Int) (C : List Int) (x y : Int) : Int := if ¬ (full room C x ↔ ¬ y = 0) then 16 else if full room C x ∧ ¬ 0 < nth C y then 18 else 0
def cpF (l p : List Int) : Nat → Int
 | 0 => 0
 | k + 1 => if cpC l p k = cpC l p (k + 1) then cpF l p k else cpF l p k + 1
def cpBad (room : Int) (l p : List Int) : Nat → Int
 | 0 => 0
 | k + 1 => if cpBad room l p k = 0 then cpErr room (cpC l p k) (nth l (k : Int)) (nth p (k : Int)) else cpBad room l p k
theorem cpBad_succ {room : Int} {l p : List Int} {k : Nat} (h : cpBad room l p k = 0) : cpBad room l p (k + 1) = cpErr room (cpC l p k) (nth l (k : Int)) (nth p (k : Int)) := if_pos h
theorem G3 {room : Int} {l p : List Int} {k n : Nat} (hk : k ≤ n) (h : ¬ cpBad room l p k = 0) : cpBad room l p n = cpBad room l p k := by
 obtain ⟨d, rfl⟩ : ∃ d, n = k + d := ⟨n - k, by omega⟩
 clear hk
 induction d with
 | zero => rfl
 | succ d ih => show (if cpBad room l p (k + d) = 0 then _ else _) = _; rw [ih, if_neg h]; exact ih
theorem cpBad_stop {room : Int} {l p : List Int} {k n : Nat} (hk : k < n) (h : cpBad room l p k = 0) (he : ¬ cpErr room (cpC l p k) (nth l (k : Int)) (nth p (k : Int)) = 0) : cpBad room l p n = cpErr room (cpC l p k) (nth l (k : Int)) (nth p (k : Int)) := by
 rw [← cpBad_succ h] at he ⊢
 exact G3 hk he
theorem cpErr_16 {room x y : Int} {C : List Int} (h : ¬ (full room C x ↔ ¬ y = 0)) : cpErr room C x y = 16 := if_pos h
theorem cpErr_18 {room x y : Int} {C : List Int} (h : full room C x ↔ ¬ y = 0) (h2 : full room C x ∧ ¬ 0 < nth C y) : cpErr room C x y = 18 := by unfold cpErr; rw [if_neg (fun hh => hh h), if_pos h2]
theorem cpErr_0 {room x y : Int} {C : List Int} (h : full room C x ↔ ¬ y = 0) (h2 : ¬ (full room C x ∧ ¬ 0 < nth C y)) : cpErr room C x y = 0 := by unfold cpErr; rw [if_neg (fun hh => hh h), if_neg h2]
theorem cpC_len {l p : List Int} : ∀ k, (cpC l p k).length = 9
 | 0 => rfl
 | k + 1 => by show (((cpC l p k).set _ _).set _ _).length = 9; rw [List.length_set, List.length_set]; exact cpC_len k
theorem WZ {C : List Int} {j : Nat} {x : Int} (hx : 0 ≤ x ∧ x ≤ 1) (h : ∀ y ∈ C, 0 ≤ y ∧ y ≤ 1) : ∀ y ∈ C.set j x, 0 ≤ y ∧ y ≤ 1 := fun y hy => by
 rcases List.mem_or_eq_of_mem_set hy with h1 | h1
 ·exact h y h1
 ·rw [h1]; exact hx
theorem WV {l p : List Int} : ∀ k, ∀ y ∈ cpC l p k, (0 : Int) ≤ y ∧ y ≤ 1
 | 0 => fun y hy => by rw [List.eq_of_mem_replicate hy]; omega
 | k + 1 => WZ (by omega) (WZ (by omega) (WV k))
theorem zBi {l p : List Int} (k : Nat) : ∀ i : Nat, i < 9 → 0 ≤ nth (cpC l p k) (i : Int) ∧ nth (cpC l p k) (i : Int) ≤ 1 := fun i hi => by
 have := cpC_len (l := l) (p := p) k
 rw [yJ (by omega)]
 exact WV k _ (List.getElem_mem _)
theorem cpC_atI {l p : List Int} (k : Nat) : ∀ i : Int, i < 9 → 0 ≤ nth (cpC l p k) i ∧ nth (cpC l p k) i ≤ 1 := fun i hi => by
 have h := zBi (l := l) (p := p) k i.toNat (by omega)
 have e : nth (cpC l p k) ((i.toNat : Nat) : Int) = nth (cpC l p k) i := by unfold nth; rw [Int.toNat_natCast]
 rwa [e] at h
theorem cpF_in {l p : List Int} : ∀ k, 0 ≤ cpF l p k ∧ cpF l p k ≤ k
 | 0 => by show (0 : Int) ≤ 0 ∧ (0 : Int) ≤ ((0 : Nat) : Int); omega
 | k + 1 => by
  have := cpF_in (l := l) (p := p) k
  by_cases h : cpC l p k = cpC l p (k + 1)
  ·rw [show cpF l p (k + 1) = cpF l p k from if_pos h]; omega
  ·rw [show cpF l p (k + 1) = cpF l p k + 1 from if_neg h]; omega
theorem cpF_t {l p : List Int} {k : Nat} (h : cpC l p k = cpC l p (k + 1)) : cpF l p (k + 1) = cpF l p k := if_pos h
theorem cpF_f {l p : List Int} {k : Nat} (h : ¬ cpC l p k = cpC l p (k + 1)) : cpF l p (k + 1) = cpF l p k + 1 := if_neg h
def cp (room : Int) (l p : List Int) : Int × Int :=
 if ¬ ck room l = 0 then (0, ck room l) else if ¬ p.length = l.length then (0, 15) else if ¬ (∀ x ∈ p, 0 ≤ x ∧ x ≤ 8) then (0, 3) else if ¬ cpBad room l p l.length = 0 then (0, cpBad room l p l.length) else (cpF l p l.length, 0)
theorem cp_1 {room : Int} {l p : List Int} (h : ¬ ck room l = 0) : cp room l p = (0, ck room l) := if_pos h
theorem cp_2 {room : Int} {l p : List Int} (h : ck room l = 0) (h2 : ¬ p.length = l.length) : cp room l p = (0, 15) := by unfold cp; rw [if_neg (fun hh => hh h), if_pos h2]
theorem cp_3 {room : Int} {l p : List Int} (h : ck room l = 0) (h2 : p.length = l.length) (h3 : ¬ ∀ x ∈ p, 0 ≤ x ∧ x ≤ 8) : cp room l p = (0, 3) := by unfold cp; rw [if_neg (fun hh => hh h), if_neg (fun hh => hh h2), if_pos h3]
theorem cp_4 {room : Int} {l p : List Int} (h : ck room l = 0) (h2 : p.length = l.length) (h3 : ∀ x ∈ p, 0 ≤ x ∧ x ≤ 8) {e : Int} (he : cpBad room l p l.length = e) (h4 : ¬ e = 0) : cp room l p = (0, e) := by unfold cp; rw [if_neg (fun hh => hh h), if_neg (fun hh => hh h2), if_neg (fun hh => hh h3), he, if_pos h4]
theorem cp_5 {room : Int} {l p : List Int} (h : ck room l = 0) (h2 : p.length = l.length) (h3 : ∀ x ∈ p, 0 ≤ x ∧ x ≤ 8) (h4 : cpBad room l p l.length = 0) : cp room l p = (cpF l p l.length, 0) := by unfold cp; rw [if_neg (fun hh => hh h), if_neg (fun hh => hh h2), if_neg (fun hh => hh h3), if_neg (fun hh => hh h4)]
end Sf
end Go.Fip
namespace Go.Fip
open Go.Proofs Go.RowKit
theorem KL {P : Program} {N : Nat} {ds : List Deferred} {env : Env} {S : World → Prop} {x y : Operand} {T T' : TypeId} {a b c : Bool} (hu : P.underlying T = some .bool) (hx : ev env x = some (.bool a)) (hy : ev env y = some (.bool b)) (e : (a != b) = c) : Yv P N ds env (.binOp .neq T x y T') (.bool c) S := fun act hact w _ _ _ _ _ _ => by
 subst e
 have h : (Op.equalIn Op.maxDepth T (.bool a) (.bool b)).run P w = .ok (a == b) w := by
  have key : ∀ d, (Op.equalIn (d + 1) T (.bool a) (.bool b)).run P w = .ok (a == b) w := fun d => by simp [Op.equalIn, run_underlying hu, Result.andThen]
  exact key 9999
 simp [execOp, hact.ev hx, hact.ev hy, eqGuard, binOp, Op.equal, h, Result.andThen, bne]
theorem c53 {v : Value} {l : List Int} {room : Int} {w : World} (h0 : Rd encI 1 v l w) (hn : l.length ≤ 1000000) {vp : Value} {p : List Int} (hp : Rd encI 1 vp p w) (hpn : p.length ≤ 1000000)  :
  Fn Tryz.prog 53 [(.agg #[(.int .i64 room), v]), vp].toArray w (fun u _ => u = .tuple #[.int .i64 (Sf.cp room l p).1, .int .i64 (Sf.cp room l p).2]) := by
 refine fz Tryz.func53 Z kz Z Z (fun hH => (zr (yW Z Z Z hH (fun b1 w2 hH3 => (oA hH3 Z (oA hH3 Z (zt (seq ?_))))))))
 by_cases hc4 : Sf.ck room l = 0
 ·have hc0 : Sf.ck room l = 0 := ‹_›
  have hday := Sf.ck_iff.1 hc0
  have hd1 := hday.r1
  have hd2 := hday.r2
  have hd3 := hday.n
  refine region (zA hH3 Z Z (zW (cs := [(.int .i64 room), v]) T.xZ Z Z (fun _ hw => Heap.yI hw (n := 0) Z (k := 0) Z)) (y2 Z Z Z hH3 (G5 (h0.now hH3 (n := 1) Z) om hc0) (fun u7 w5 lo8 hi9 hH6 hv10 => ?_)))
  obtain ⟨bbD12, hu, hrowD12⟩ := hv10
  subst hu
  obtain ⟨mbD12, mmD12, hfullD12, hH11⟩ := Heap.X4 hH6 (n := 0) rfl (fun w' h => by obtain ⟨rb', e, h⟩ := h; cases e; exact h)
  refine oM hH11 Z (zA hH11 Z Z (zI Z Z) (zA hH11 Z Z (zI Z Z) (oA hH11 Z (oA hH11 Z (zt (seq (block (zr (oM hH11 Z (zA hH11 Z Z (yH Z Z) (oA hH11 Z (zt (zM Z Z (zr (oM hH11 Z (zA hH11 Z Z (yA T.yV Z (hp.now hH11 (n := 3) Z).is) (zA hH11 Z Z (zJ T.vP Z) ?_)))))))))))))))))
  refine zA hH11 Z Z (zF T.xK Z (cw (n := 2) Z Z)) (zA hH11 Z Z (yA T.yV Z (h0.now hH11 (n := 3) Z).is) (zA hH11 Z Z (yH Z Z) (oA hH11 Z (zt ?_))))
  by_cases hc13 : (p.length : Int) = (l.length : Int)
  ·have hlp : p.length = l.length := by omega
   refine zM Z (zH hc13) (zr (oM hH11 Z (zN Z Z Z hH11 (c91 (hp.now hH11 (n := 3) Z) om) (fun w14 hH15 => (zA hH15 Z Z (y7 Z) (oA hH15 Z (zt ?_)))))))
   by_cases hc16 : ∀ x ∈ p, 0 ≤ x ∧ x ≤ 8
   ·have hpw : ∀ x ∈ p, 0 ≤ x ∧ x ≤ 8 := by have hq := (zH hc16); simpa using hq
    refine zM Z (zH hc16) (skip (yB (zu (oA hH15 Z (zt (seq (zr (zA hH15 Z Z (zJ T.vP Z) (zA hH15 Z Z (zF T.xK Z (cw (n := 2) Z Z)) (zA hH15 Z Z (yA T.yV Z (h0.now hH15 (n := 3) Z).is) (oM hH15 Z (zt (block (loop (S := Nat) (fun k => [(36, (.int .i64 (k : Int))), (8, (.int .i64 (Sf.cpF l p k))), (1, vp), (2, (.pointer (some ⟨b1, 0, none⟩))), (6, (.pointer (some ⟨bbD12, 0, none⟩))), (34, v), (35, (.int .i64 (l.length : Int)))]) (fun k w1 => Heap [mp Sf.kvS Sf.vvI mbD12 mmD12, bx bbD12 148 (seg [(.int .i64 room), v] (Sf.cpC l p k) [(.map (some mbD12))]), bx b1 51 [(.int .i64 room), v], base w] w1 ∧ k ≤ l.length ∧ Sf.cpBad room l p k = 0) (fun k => l.length - k) (0) (uC Z (uC Z (uC Z (uC Z (uC Z (uC Z (uC Z (Sub.nil _)))))))) ?_ ?_))))))))))))))
    ·exact ⟨(Heap.xA (n := 1) hH15 Z (Z)), by omega, Z⟩
    rintro k w17 ⟨hH18, hk, hbad⟩
    have hcl := Sf.cpC_len (l := l) (p := p) k
    have hcf := Sf.cpF_in (l := l) (p := p) k
    refine zr (zA hH18 Z Z (yK Z Z) (zt (seq ?_)))
    by_cases hc19 : (k : Int) < (l.length : Int)
    ·refine zO Z (dT hc19) (skip (zP (seq (block (seq ?_)))))
     have hx8 := hday.at (i := k) (by omega)
     have hy8 : 0 ≤ (nth p (k : Int)) ∧ (nth p (k : Int)) ≤ 8 := by rw [yJ (by omega)]; exact hpw _ (List.getElem_mem (by omega))
     refine region (oM hH18 Z (zA hH18 Z Z (zS T.yV Z Z (h0.now hH18 (n := 3) Z).is om) (zA hH18 Z Z (zF T.yU Z (fun _ hw => Rd.at (h0.now hw (n := 3) Z) (i := (k : Int)) om (j := 0) Z)) (oA hH18 Z (oA hH18 Z (zt (seq (zZ (fun w' => Heap [mp Sf.kvS Sf.vvI mbD12 mmD12, bx bbD12 148 (seg [(.int .i64 room), v] (Sf.cpC l p k) [(.map (some mbD12))]), bx b1 51 [(.int .i64 room), v], base w] w') T.mixed (fun w20 hr21 => ?_)))))))))
     have hH22 := hH18.redrawn hr21
     refine zK [0, 1] kz hH22 _ _ _ kz (qM Z Z Z (qM Z Z Z (zV (z1 2 kz Z (zN Z Z Z hH22 (zBs (Heap.xS hH22 (n := 1) Z) (by first | exact Sf.cpC_len k | (simp only [List.length_set]; exact Sf.cpC_len k) | omega) om) (fun w23 hH24 => (zD (⟨hH24, (zK [3, 4] kz hH24 _ _ _ kz (zL Z Z (y7 Z) (qM Z Z Z (zV ?_))))⟩))))))))
     by_cases hc25 : 0 < nth (Sf.cpC l p k) (nth l (k : Int))
     ·have hyes : 0 < nth (Sf.cpC l p k) (nth l (k : Int)) := by simpa using (zH hc25)
      have hfu : Sf.full room (Sf.cpC l p k) (nth l (k : Int)) ↔ False := ⟨fun h => h.1 hyes, False.elim⟩
      refine zK [5, 6, 7, 8, 9, 10, 11] kz hH24 _ _ _ kz (yT Z Z Z (zH hc25) Z (yT Z Z Z (zH hc25) Z (yT Z Z Z (zH hc25) Z (yT Z Z Z (zH hc25) Z (yT Z Z Z (zH hc25) Z (zL Z Z (zT Z (zH hc25) Z) (zL Z Z (yG Z) (zV (zY kz (zP (seq (block (zr (oM hH24 Z (oM hH24 Z (oM hH24 Z (zA hH24 Z Z (zS T.yV Z Z (hp.now hH24 (n := 3) Z).is om) (zA hH24 Z Z (zF T.yU Z (fun _ hw => Rd.at (hp.now hw (n := 3) Z) (i := (k : Int)) om (j := 0) Z)) (zA hH24 Z Z (yH Z Z) (zA hH24 Z Z (KL Tryz.underlying4 Z Z (show _ = decide (¬ (Sf.full room (Sf.cpC l p k) (nth l (k : Int)) ↔ ¬ (nth p (k : Int)) = 0)) from by by_cases h1 : (nth p (k : Int)) = 0 <;> by_cases h2 : Sf.sumTo (Sf.cpC l p k) 9 = room <;> simp [hfu, h1, h2])) ?_))))))))))))))))))))
      refine oA hH24 Z (zt ?_)
      by_cases hc26 : ¬ (Sf.full room (Sf.cpC l p k) (nth l (k : Int)) ↔ ¬ (nth p (k : Int)) = 0)
      ·have hbn : Sf.cpBad room l p l.length = 16 := by rw [Sf.cpBad_stop (k := k) (by omega) hbad (by rw [Sf.cpErr_16 (of_decide_eq_true (decide_eq_true hc26))]; decide)]; exact Sf.cpErr_16 (of_decide_eq_true (decide_eq_true hc26))
       refine zO Z (dT hc26) (zr (oA hH24 Z (oA hH24 Z (zt (ret (yD (z2 (yD (z2 (xT (yD (z2 ?_))))))))))))
       have hH27 := (hH24.sub (sC (sC (sC sR))))
       refine fin hH27 (fun w' hf => (xI Z (rt Z) (rt Z))) (fun w' hf => ?_)
       first | (rw [Sf.cp_1 hcn] <;> rfl) | (rw [Sf.cp_2 hc0 hlp] <;> rfl) | (rw [Sf.cp_3 hc0 hlp hpw] <;> rfl) | (rw [Sf.cp_4 hc0 hlp hpw hbn (by decide)] <;> rfl) | (have hke : k = l.length := (by omega); subst hke; rw [Sf.cp_5 hc0 hlp hpw hbad] <;> rfl)
      have hok : Sf.full room (Sf.cpC l p k) (nth l (k : Int)) ↔ ¬ (nth p (k : Int)) = 0 := Decidable.not_not.1 (of_decide_eq_false (decide_eq_false hc26))
      refine zM Z (dF hc26) (zr (oM hH24 Z (oM hH24 Z (zE Z Z Z Z (zE Z Z Z Z (zE Z Z Z Z (zE Z Z Z Z (zE Z Z Z Z (zE Z Z Z Z (zE Z Z Z Z (zA hH24 Z Z (zT Z Z Z) (oA hH24 Z (zt (zM Z Z (skip (yB (zu ?_)))))))))))))))))
      refine oM hH24 Z (zA hH24 Z Z (yQ Z) (zA hH24 Z Z (zJ T.uZ Z) (zA hH24 Z Z (uA T.vS Z ((by first | exact Sf.cpC_len k | (simp only [List.length_set]; exact Sf.cpC_len k) | omega)) (by rfl) (fun _ hw => (Heap.xS hw (n := 1) Z))) (yC (z := (.agg #[(.int .i64 0), (.int .i64 0), (.int .i64 0), (.int .i64 0), (.int .i64 0), (.int .i64 0), (.int .i64 0), (.int .i64 0), (.int .i64 0)])) (fun _ => by kernel_rfl) Z Z hH24 (fun b28 w29 hH30 => (YS (n := 0) Z Z hH30 Z T.WK om (by first | rfl | (rw [vD]; omega)) (fun w31 hH32 => (zs (oM hH32 Z (oM hH32 Z (oM hH32 Z (zA hH32 Z Z (zS T.yV Z Z (hp.now hH32 (n := 4) Z).is om) (zA hH32 Z Z (zF T.yU Z (fun _ hw => Rd.at (hp.now hw (n := 4) Z) (i := (k : Int)) om (j := 0) Z)) (x7 (g := bbD12) (n := 2) Z Z Z hH32 Z ⟨Nat.le_refl _, Nat.lt_succ_self _⟩ (zA8 (Heap.xS hH32 (n := 2) Z) ((by first | exact Sf.cpC_len k | (simp only [List.length_set]; exact Sf.cpC_len k) | omega)) om) (fun u35 w33 hH34 hv36 => ?_)))))))))))))))
      obtain ⟨rfl, -⟩ := hv36
      have hH37 := Heap.weaken hH34 (n := 2) Z (φ := Bx bbD12 148 (seg [(.int .i64 room), v] ((Sf.cpC l p k).set (nth p (k : Int)).toNat 0) [(.map (some mbD12))])) (fun w' h => h.2)
      refine zs (oM hH37 Z (oM hH37 Z (x7 (g := bbD12) (n := 2) Z Z Z hH37 Z ⟨Nat.le_refl _, Nat.lt_succ_self _⟩ (JT (Heap.xS hH37 (n := 2) Z) ((by first | exact Sf.cpC_len k | (simp only [List.length_set]; exact Sf.cpC_len k) | omega)) om) (fun u40 w38 hH39 hv41 => ?_))))
      obtain ⟨rfl, -⟩ := hv41
      have hH42 := Heap.weaken hH39 (n := 2) Z (φ := Bx bbD12 148 (seg [(.int .i64 room), v] (((Sf.cpC l p k).set (nth p (k : Int)).toNat 0).set (nth l (k : Int)).toNat 1) [(.map (some mbD12))])) (fun w' h => h.2)
      refine zt (seq (zZ (fun w' => Heap [bx b28 145 (ints (Sf.cpC l p k)), mp Sf.kvS Sf.vvI mbD12 mmD12, bx bbD12 148 (seg [(.int .i64 room), v] (((Sf.cpC l p k).set (nth p (k : Int)).toNat 0).set (nth l (k : Int)).toNat 1) [(.map (some mbD12))]), bx b1 51 [(.int .i64 room), v], base w] w') T.mixed (fun w43 hr44 => ?_)))
      have hH45 := hH42.redrawn hr44
      refine zK [0, 1, 2, 3, 4, 5] kz hH45 _ _ _ kz (zL Z Z (v8 T.vS om Z (fun _ hw => Heap.xS hw (n := 0) Z)) (qM Z Z Z (zL Z Z (yQ Z) (zL Z Z (zJ T.uZ Z) (zL Z Z (uA T.vS Z ((by first | exact Sf.cpC_len k | (simp only [List.length_set]; exact Sf.cpC_len k) | omega)) (by rfl) (fun _ hw => (Heap.xS hw (n := 2) Z))) (zL Z Z (V4 (a := (Sf.cpC l p k)) (b := (((Sf.cpC l p k).set (nth p (k : Int)).toNat 0).set (nth l (k : Int)).toNat 1)) T.G4 Z Z (by first | exact Sf.cpC_len k | (simp only [List.length_set]; exact Sf.cpC_len k)) (by first | exact Sf.cpC_len k | (simp only [List.length_set]; exact Sf.cpC_len k))) (zV (zY kz (zP ?_)))))))))
      by_cases hc46 : (Sf.cpC l p k) = (((Sf.cpC l p k).set (nth p (k : Int)).toNat 0).set (nth l (k : Int)).toNat 1)
      ·have hsm0 : (Sf.cpC l p k) = (((Sf.cpC l p k).set (nth p (k : Int)).toNat 0).set (nth l (k : Int)).toNat 1) := by have hq := (zH hc46); simpa using hq
       have hsm : (Sf.cpC l p k) = Sf.cpC l p (k + 1) := hsm0
       refine zM Z (zH hc46) (skip (yB (zP (region (zA hH45 Z Z (zX Z Z om) (oM hH45 Z (zD ?_)))))))
       have hH47 := (hH45.sub (sC sR))
       refine yY (k + 1) (uC Z (Sub.cons (by first | (rw [Sf.cpF_t hsm]; done) | (rw [Sf.cpF_t hsm]; rfl) | (rw [Sf.cpF_f hdf]; done) | (rw [Sf.cpF_f hdf]; rfl) | exact congrArg (fun z : Int => some (Value.int .i64 z)) (Sf.cpF_t hsm).symm) (uC Z (uC Z (uC Z (uC Z (uC Z (Sub.nil _)))))))) ?_ ?_
       ·exact ⟨(Heap.xA (n := 1) hH47 Z (Z)), by omega, (by rw [Sf.cpBad_succ hbad]; exact Sf.cpErr_0 hok (by first | exact h18n | exact fun h => h.1.1 hyes | exact fun h => hns h.1.2))⟩
       ·first | (dsimp only; omega) | (show _ < _; omega)
      have hdf0 : ¬ (Sf.cpC l p k) = (((Sf.cpC l p k).set (nth p (k : Int)).toNat 0).set (nth l (k : Int)).toNat 1) := by have hq := (zG hc46); simpa using hq
      have hdf : ¬ (Sf.cpC l p k) = Sf.cpC l p (k + 1) := hdf0
      refine zO Z (zG hc46) (region (oM hH45 Z (zA hH45 Z Z (zX Z Z om) (oA hH45 Z (zD (yB (zP (region (zA hH45 Z Z (zX Z Z om) (oM hH45 Z (zD ?_)))))))))))
      have hH48 := (hH45.sub (sC sR))
      refine yY (k + 1) (uC Z (Sub.cons (by first | (rw [Sf.cpF_t hsm]; done) | (rw [Sf.cpF_t hsm]; rfl) | (rw [Sf.cpF_f hdf]; done) | (rw [Sf.cpF_f hdf]; rfl) | exact congrArg (fun z : Int => some (Value.int .i64 z)) (Sf.cpF_t hsm).symm) (uC Z (uC Z (uC Z (uC Z (uC Z (Sub.nil _)))))))) ?_ ?_
      ·exact ⟨(Heap.xA (n := 1) hH48 Z (Z)), by omega, (by rw [Sf.cpBad_succ hbad]; exact Sf.cpErr_0 hok (by first | exact h18n | exact fun h => h.1.1 hyes | exact fun h => hns h.1.2))⟩
      ·first | (dsimp only; omega) | (show _ < _; omega)
     have hno : ¬ 0 < nth (Sf.cpC l p k) (nth l (k : Int)) := by simpa using (zG hc25)
     have hfu : Sf.full room (Sf.cpC l p k) (nth l (k : Int)) ↔ Sf.sumTo (Sf.cpC l p k) 9 = room := ⟨fun h => h.2, fun h => ⟨hno, h⟩⟩
     refine zK [5, 7, 8] kz hH24 _ _ _ kz (yE Z Z Z (zG hc25) Z (y9 Z) (yE Z Z Z (zG hc25) Z (zJ T.Y2 Z) (yE Z Z Z (zG hc25) Z (zF T.yU Z (cw (n := 2) Z Z)) (zV (z1 6 kz Z (zB Z Z (zG hc25) (zN Z Z Z hH24 (zDm (Heap.xS hH24 (n := 1) Z) (by first | exact Sf.cpC_len k | (simp only [List.length_set]; exact Sf.cpC_len k) | omega) (Sf.cpC_atI k)) (fun w49 hH50 => (zD (⟨hH50, (zK [9, 10, 11] kz hH50 _ _ _ kz (yE Z Z Z (zG hc25) Z (y6 Z Z) (zL Z Z (zR Z (zG hc25) Z) (zL Z Z (yG Z) (zV (zY kz (zP (seq (block (zr ?_))))))))))⟩))))))))))
     refine oM hH50 Z (oM hH50 Z (oM hH50 Z (zA hH50 Z Z (zS T.yV Z Z (hp.now hH50 (n := 3) Z).is om) (zA hH50 Z Z (zF T.yU Z (fun _ hw => Rd.at (hp.now hw (n := 3) Z) (i := (k : Int)) om (j := 0) Z)) (zA hH50 Z Z (yH Z Z) (zA hH50 Z Z (KL Tryz.underlying4 Z Z (show _ = decide (¬ (Sf.full room (Sf.cpC l p k) (nth l (k : Int)) ↔ ¬ (nth p (k : Int)) = 0)) from by by_cases h1 : (nth p (k : Int)) = 0 <;> by_cases h2 : Sf.sumTo (Sf.cpC l p k) 9 = room <;> simp [hfu, h1, h2])) ?_))))))
     refine oA hH50 Z (zt ?_)
     by_cases hc51 : ¬ (Sf.full room (Sf.cpC l p k) (nth l (k : Int)) ↔ ¬ (nth p (k : Int)) = 0)
     ·have hbn : Sf.cpBad room l p l.length = 16 := by rw [Sf.cpBad_stop (k := k) (by omega) hbad (by rw [Sf.cpErr_16 (of_decide_eq_true (decide_eq_true hc51))]; decide)]; exact Sf.cpErr_16 (of_decide_eq_true (decide_eq_true hc51))
      refine zO Z (dT hc51) (zr (oA hH50 Z (oA hH50 Z (zt (ret (yD (z2 (yD (z2 (xT (yD (z2 ?_))))))))))))
      have hH52 := (hH50.sub (sC (sC (sC sR))))
      refine fin hH52 (fun w' hf => (xI Z (rt Z) (rt Z))) (fun w' hf => ?_)
      first | (rw [Sf.cp_1 hcn] <;> rfl) | (rw [Sf.cp_2 hc0 hlp] <;> rfl) | (rw [Sf.cp_3 hc0 hlp hpw] <;> rfl) | (rw [Sf.cp_4 hc0 hlp hpw hbn (by decide)] <;> rfl) | (have hke : k = l.length := (by omega); subst hke; rw [Sf.cp_5 hc0 hlp hpw hbad] <;> rfl)
     have hok : Sf.full room (Sf.cpC l p k) (nth l (k : Int)) ↔ ¬ (nth p (k : Int)) = 0 := Decidable.not_not.1 (of_decide_eq_false (decide_eq_false hc51))
     refine zM Z (dF hc51) (zr (oM hH50 Z (oM hH50 Z ?_)))
     by_cases hc53 : (Sf.sumTo (Sf.cpC l p k) 9) = room
     ·have hs : Sf.sumTo (Sf.cpC l p k) 9 = room := by have hq := (decide_eq_true hc53); simpa using hq
      refine zB Z Z (dT hc53) (oM hH50 Z (zB Z Z (dT hc53) (oM hH50 Z (zB Z Z (dT hc53) (oM hH50 Z (zB Z Z (dT hc53) (zA hH50 Z Z (zS T.yV Z Z (hp.now hH50 (n := 3) Z).is om) (zB Z Z (dT hc53) (zA hH50 Z Z (zF T.yU Z (fun _ hw => Rd.at (hp.now hw (n := 3) Z) (i := (k : Int)) om (j := 0) Z)) (zB Z Z (dT hc53) (zN Z Z Z hH50 (zBs (Heap.xS hH50 (n := 1) Z) (by first | exact Sf.cpC_len k | (simp only [List.length_set]; exact Sf.cpC_len k) | omega) om) (fun w54 hH55 => (zB Z Z (dT hc53) (zA hH55 Z Z (y7 Z) (zA hH55 Z Z (zR Z (dT hc53) Z) (oA hH55 Z (zt ?_)))))))))))))))))
      by_cases hc56 : 0 < nth (Sf.cpC l p k) (nth p (k : Int))
      ·have hy1 : 0 < nth (Sf.cpC l p k) (nth p (k : Int)) := by have hq := (zH hc56); simpa using hq
       have h18n : ¬ (Sf.full room (Sf.cpC l p k) (nth l (k : Int)) ∧ ¬ 0 < nth (Sf.cpC l p k) (nth p (k : Int))) := fun h => h.2 hy1
       refine zM Z (zH hc56) (skip (yB (zu (oM hH55 Z (zA hH55 Z Z (yQ Z) (zA hH55 Z Z (zJ T.uZ Z) (zA hH55 Z Z (uA T.vS Z ((by first | exact Sf.cpC_len k | (simp only [List.length_set]; exact Sf.cpC_len k) | omega)) (by rfl) (fun _ hw => (Heap.xS hw (n := 1) Z))) (yC (z := (.agg #[(.int .i64 0), (.int .i64 0), (.int .i64 0), (.int .i64 0), (.int .i64 0), (.int .i64 0), (.int .i64 0), (.int .i64 0), (.int .i64 0)])) (fun _ => by kernel_rfl) Z Z hH55 (fun b57 w58 hH59 => (YS (n := 0) Z Z hH59 Z T.WK om (by first | rfl | (rw [vD]; omega)) (fun w60 hH61 => (zs (oM hH61 Z (oM hH61 Z (oM hH61 Z (zA hH61 Z Z (zS T.yV Z Z (hp.now hH61 (n := 4) Z).is om) (zA hH61 Z Z (zF T.yU Z (fun _ hw => Rd.at (hp.now hw (n := 4) Z) (i := (k : Int)) om (j := 0) Z)) (x7 (g := bbD12) (n := 2) Z Z Z hH61 Z ⟨Nat.le_refl _, Nat.lt_succ_self _⟩ (zA8 (Heap.xS hH61 (n := 2) Z) ((by first | exact Sf.cpC_len k | (simp only [List.length_set]; exact Sf.cpC_len k) | omega)) om) (fun u64 w62 hH63 hv65 => ?_)))))))))))))))))))
       obtain ⟨rfl, -⟩ := hv65
       have hH66 := Heap.weaken hH63 (n := 2) Z (φ := Bx bbD12 148 (seg [(.int .i64 room), v] ((Sf.cpC l p k).set (nth p (k : Int)).toNat 0) [(.map (some mbD12))])) (fun w' h => h.2)
       refine zs (oM hH66 Z (oM hH66 Z (x7 (g := bbD12) (n := 2) Z Z Z hH66 Z ⟨Nat.le_refl _, Nat.lt_succ_self _⟩ (JT (Heap.xS hH66 (n := 2) Z) ((by first | exact Sf.cpC_len k | (simp only [List.length_set]; exact Sf.cpC_len k) | omega)) om) (fun u69 w67 hH68 hv70 => ?_))))
       obtain ⟨rfl, -⟩ := hv70
       have hH71 := Heap.weaken hH68 (n := 2) Z (φ := Bx bbD12 148 (seg [(.int .i64 room), v] (((Sf.cpC l p k).set (nth p (k : Int)).toNat 0).set (nth l (k : Int)).toNat 1) [(.map (some mbD12))])) (fun w' h => h.2)
       refine zt (seq (zZ (fun w' => Heap [bx b57 145 (ints (Sf.cpC l p k)), mp Sf.kvS Sf.vvI mbD12 mmD12, bx bbD12 148 (seg [(.int .i64 room), v] (((Sf.cpC l p k).set (nth p (k : Int)).toNat 0).set (nth l (k : Int)).toNat 1) [(.map (some mbD12))]), bx b1 51 [(.int .i64 room), v], base w] w') T.mixed (fun w72 hr73 => ?_)))
       have hH74 := hH71.redrawn hr73
       refine zK [0, 1, 2, 3, 4, 5] kz hH74 _ _ _ kz (zL Z Z (v8 T.vS om Z (fun _ hw => Heap.xS hw (n := 0) Z)) (qM Z Z Z (zL Z Z (yQ Z) (zL Z Z (zJ T.uZ Z) (zL Z Z (uA T.vS Z ((by first | exact Sf.cpC_len k | (simp only [List.length_set]; exact Sf.cpC_len k) | omega)) (by rfl) (fun _ hw => (Heap.xS hw (n := 2) Z))) (zL Z Z (V4 (a := (Sf.cpC l p k)) (b := (((Sf.cpC l p k).set (nth p (k : Int)).toNat 0).set (nth l (k : Int)).toNat 1)) T.G4 Z Z (by first | exact Sf.cpC_len k | (simp only [List.length_set]; exact Sf.cpC_len k)) (by first | exact Sf.cpC_len k | (simp only [List.length_set]; exact Sf.cpC_len k))) (zV (zY kz (zP ?_)))))))))
       by_cases hc75 : (Sf.cpC l p k) = (((Sf.cpC l p k).set (nth p (k : Int)).toNat 0).set (nth l (k : Int)).toNat 1)
       ·have hsm0 : (Sf.cpC l p k) = (((Sf.cpC l p k).set (nth p (k : Int)).toNat 0).set (nth l (k : Int)).toNat 1) := by have hq := (zH hc75); simpa using hq
        have hsm : (Sf.cpC l p k) = Sf.cpC l p (k + 1) := hsm0
        refine zM Z (zH hc75) (skip (yB (zP (region (zA hH74 Z Z (zX Z Z om) (oM hH74 Z (zD ?_)))))))
        have hH76 := (hH74.sub (sC sR))
        refine yY (k + 1) (uC Z (Sub.cons (by first | (rw [Sf.cpF_t hsm]; done) | (rw [Sf.cpF_t hsm]; rfl) | (rw [Sf.cpF_f hdf]; done) | (rw [Sf.cpF_f hdf]; rfl) | exact congrArg (fun z : Int => some (Value.int .i64 z)) (Sf.cpF_t hsm).symm) (uC Z (uC Z (uC Z (uC Z (uC Z (Sub.nil _)))))))) ?_ ?_
        ·exact ⟨(Heap.xA (n := 1) hH76 Z (Z)), by omega, (by rw [Sf.cpBad_succ hbad]; exact Sf.cpErr_0 hok (by first | exact h18n | exact fun h => h.1.1 hyes | exact fun h => hns h.1.2))⟩
        ·first | (dsimp only; omega) | (show _ < _; omega)
       have hdf0 : ¬ (Sf.cpC l p k) = (((Sf.cpC l p k).set (nth p (k : Int)).toNat 0).set (nth l (k : Int)).toNat 1) := by have hq := (zG hc75); simpa using hq
       have hdf : ¬ (Sf.cpC l p k) = Sf.cpC l p (k + 1) := hdf0
       refine zO Z (zG hc75) (region (oM hH74 Z (zA hH74 Z Z (zX Z Z om) (oA hH74 Z (zD (yB (zP (region (zA hH74 Z Z (zX Z Z om) (oM hH74 Z (zD ?_)))))))))))
       have hH77 := (hH74.sub (sC sR))
       refine yY (k + 1) (uC Z (Sub.cons (by first | (rw [Sf.cpF_t hsm]; done) | (rw [Sf.cpF_t hsm]; rfl) | (rw [Sf.cpF_f hdf]; done) | (rw [Sf.cpF_f hdf]; rfl) | exact congrArg (fun z : Int => some (Value.int .i64 z)) (Sf.cpF_t hsm).symm) (uC Z (uC Z (uC Z (uC Z (uC Z (Sub.nil _)))))))) ?_ ?_
       ·exact ⟨(Heap.xA (n := 1) hH77 Z (Z)), by omega, (by rw [Sf.cpBad_succ hbad]; exact Sf.cpErr_0 hok (by first | exact h18n | exact fun h => h.1.1 hyes | exact fun h => hns h.1.2))⟩
       ·first | (dsimp only; omega) | (show _ < _; omega)
      have hy0 : ¬ 0 < nth (Sf.cpC l p k) (nth p (k : Int)) := by have hq := (zG hc56); simpa using hq
      have hbn : Sf.cpBad room l p l.length = 18 := by rw [Sf.cpBad_stop (k := k) (by omega) hbad (by rw [Sf.cpErr_18 hok ⟨hfu.2 hs, hy0⟩]; decide)]; exact Sf.cpErr_18 hok ⟨hfu.2 hs, hy0⟩
      refine zO Z (zG hc56) (zr (oA hH55 Z (oA hH55 Z (zt (ret (yD (z2 (yD (z2 (xT (yD (z2 ?_))))))))))))
      have hH78 := (hH55.sub (sC (sC (sC sR))))
      refine fin hH78 (fun w' hf => (xI Z (rt Z) (rt Z))) (fun w' hf => ?_)
      first | (rw [Sf.cp_1 hcn] <;> rfl) | (rw [Sf.cp_2 hc0 hlp] <;> rfl) | (rw [Sf.cp_3 hc0 hlp hpw] <;> rfl) | (rw [Sf.cp_4 hc0 hlp hpw hbn (by decide)] <;> rfl) | (have hke : k = l.length := (by omega); subst hke; rw [Sf.cp_5 hc0 hlp hpw hbad] <;> rfl)
     have hns : ¬ Sf.sumTo (Sf.cpC l p k) 9 = room := by have hq := (decide_eq_false hc53); simpa using hq
     refine zE Z Z (dF hc53) Z (zE Z Z (dF hc53) Z (zE Z Z (dF hc53) Z (zE Z Z (dF hc53) Z (zE Z Z (dF hc53) Z (zE Z Z (dF hc53) Z (zE Z Z (dF hc53) Z (zA hH50 Z Z (zT Z (dF hc53) Z) (oA hH50 Z (zt (zM Z Z (skip (yB (zu (oM hH50 Z (zA hH50 Z Z (yQ Z) (zA hH50 Z Z (zJ T.uZ Z) (zA hH50 Z Z (uA T.vS Z ((by first | exact Sf.cpC_len k | (simp only [List.length_set]; exact Sf.cpC_len k) | omega)) (by rfl) (fun _ hw => (Heap.xS hw (n := 1) Z))) (yC (z := (.agg #[(.int .i64 0), (.int .i64 0), (.int .i64 0), (.int .i64 0), (.int .i64 0), (.int .i64 0), (.int .i64 0), (.int .i64 0), (.int .i64 0)])) (fun _ => by kernel_rfl) Z Z hH50 (fun b79 w80 hH81 => ?_)))))))))))))))))))
     refine YS (n := 0) Z Z hH81 Z T.WK om (by first | rfl | (rw [vD]; omega)) (fun w82 hH83 => (zs (oM hH83 Z (oM hH83 Z (oM hH83 Z (zA hH83 Z Z (zS T.yV Z Z (hp.now hH83 (n := 4) Z).is om) (zA hH83 Z Z (zF T.yU Z (fun _ hw => Rd.at (hp.now hw (n := 4) Z) (i := (k : Int)) om (j := 0) Z)) (x7 (g := bbD12) (n := 2) Z Z Z hH83 Z ⟨Nat.le_refl _, Nat.lt_succ_self _⟩ (zA8 (Heap.xS hH83 (n := 2) Z) ((by first | exact Sf.cpC_len k | (simp only [List.length_set]; exact Sf.cpC_len k) | omega)) om) (fun u86 w84 hH85 hv87 => ?_)))))))))
     obtain ⟨rfl, -⟩ := hv87
     have hH88 := Heap.weaken hH85 (n := 2) Z (φ := Bx bbD12 148 (seg [(.int .i64 room), v] ((Sf.cpC l p k).set (nth p (k : Int)).toNat 0) [(.map (some mbD12))])) (fun w' h => h.2)
     refine zs (oM hH88 Z (oM hH88 Z (x7 (g := bbD12) (n := 2) Z Z Z hH88 Z ⟨Nat.le_refl _, Nat.lt_succ_self _⟩ (JT (Heap.xS hH88 (n := 2) Z) ((by first | exact Sf.cpC_len k | (simp only [List.length_set]; exact Sf.cpC_len k) | omega)) om) (fun u91 w89 hH90 hv92 => ?_))))
     obtain ⟨rfl, -⟩ := hv92
     have hH93 := Heap.weaken hH90 (n := 2) Z (φ := Bx bbD12 148 (seg [(.int .i64 room), v] (((Sf.cpC l p k).set (nth p (k : Int)).toNat 0).set (nth l (k : Int)).toNat 1) [(.map (some mbD12))])) (fun w' h => h.2)
     refine zt (seq (zZ (fun w' => Heap [bx b79 145 (ints (Sf.cpC l p k)), mp Sf.kvS Sf.vvI mbD12 mmD12, bx bbD12 148 (seg [(.int .i64 room), v] (((Sf.cpC l p k).set (nth p (k : Int)).toNat 0).set (nth l (k : Int)).toNat 1) [(.map (some mbD12))]), bx b1 51 [(.int .i64 room), v], base w] w') T.mixed (fun w94 hr95 => ?_)))
     have hH96 := hH93.redrawn hr95
     refine zK [0, 1, 2, 3, 4, 5] kz hH96 _ _ _ kz (zL Z Z (v8 T.vS om Z (fun _ hw => Heap.xS hw (n := 0) Z)) (qM Z Z Z (zL Z Z (yQ Z) (zL Z Z (zJ T.uZ Z) (zL Z Z (uA T.vS Z ((by first | exact Sf.cpC_len k | (simp only [List.length_set]; exact Sf.cpC_len k) | omega)) (by rfl) (fun _ hw => (Heap.xS hw (n := 2) Z))) (zL Z Z (V4 (a := (Sf.cpC l p k)) (b := (((Sf.cpC l p k).set (nth p (k : Int)).toNat 0).set (nth l (k : Int)).toNat 1)) T.G4 Z Z (by first | exact Sf.cpC_len k | (simp only [List.length_set]; exact Sf.cpC_len k)) (by first | exact Sf.cpC_len k | (simp only [List.length_set]; exact Sf.cpC_len k))) (zV (zY kz (zP ?_)))))))))
     by_cases hc97 : (Sf.cpC l p k) = (((Sf.cpC l p k).set (nth p (k : Int)).toNat 0).set (nth l (k : Int)).toNat 1)
     ·have hsm0 : (Sf.cpC l p k) = (((Sf.cpC l p k).set (nth p (k : Int)).toNat 0).set (nth l (k : Int)).toNat 1) := by have hq := (zH hc97); simpa using hq
      have hsm : (Sf.cpC l p k) = Sf.cpC l p (k + 1) := hsm0
      refine zM Z (zH hc97) (skip (yB (zP (region (zA hH96 Z Z (zX Z Z om) (oM hH96 Z (zD ?_)))))))
      have hH98 := (hH96.sub (sC sR))
      refine yY (k + 1) (uC Z (Sub.cons (by first | (rw [Sf.cpF_t hsm]; done) | (rw [Sf.cpF_t hsm]; rfl) | (rw [Sf.cpF_f hdf]; done) | (rw [Sf.cpF_f hdf]; rfl) | exact congrArg (fun z : Int => some (Value.int .i64 z)) (Sf.cpF_t hsm).symm) (uC Z (uC Z (uC Z (uC Z (uC Z (Sub.nil _)))))))) ?_ ?_
      ·exact ⟨(Heap.xA (n := 1) hH98 Z (Z)), by omega, (by rw [Sf.cpBad_succ hbad]; exact Sf.cpErr_0 hok (by first | exact h18n | exact fun h => h.1.1 hyes | exact fun h => hns h.1.2))⟩
      ·first | (dsimp only; omega) | (show _ < _; omega)
     have hdf0 : ¬ (Sf.cpC l p k) = (((Sf.cpC l p k).set (nth p (k : Int)).toNat 0).set (nth l (k : Int)).toNat 1) := by have hq := (zG hc97); simpa using hq
     have hdf : ¬ (Sf.cpC l p k) = Sf.cpC l p (k + 1) := hdf0
     refine zO Z (zG hc97) (region (oM hH96 Z (zA hH96 Z Z (zX Z Z om) (oA hH96 Z (zD (yB (zP (region (zA hH96 Z Z (zX Z Z om) (oM hH96 Z (zD ?_)))))))))))
     have hH99 := (hH96.sub (sC sR))
     refine yY (k + 1) (uC Z (Sub.cons (by first | (rw [Sf.cpF_t hsm]; done) | (rw [Sf.cpF_t hsm]; rfl) | (rw [Sf.cpF_f hdf]; done) | (rw [Sf.cpF_f hdf]; rfl) | exact congrArg (fun z : Int => some (Value.int .i64 z)) (Sf.cpF_t hsm).symm) (uC Z (uC Z (uC Z (uC Z (uC Z (Sub.nil _)))))))) ?_ ?_
     ·exact ⟨(Heap.xA (n := 1) hH99 Z (Z)), by omega, (by rw [Sf.cpBad_succ hbad]; exact Sf.cpErr_0 hok (by first | exact h18n | exact fun h => h.1.1 hyes | exact fun h => hns h.1.2))⟩
     ·first | (dsimp only; omega) | (show _ < _; omega)
    refine zM Z (dF hc19) (exit (yX (xF (z7 (zu (oM hH18 Z (oA hH18 Z (oA hH18 Z (zt (ret ?_))))))))))
    have hH100 := (hH18.sub (sC (sC (sC sR))))
    refine fin hH100 (fun w' hf => (xI Z (rt Z) (rt Z))) (fun w' hf => ?_)
    first | (rw [Sf.cp_1 hcn] <;> rfl) | (rw [Sf.cp_2 hc0 hlp] <;> rfl) | (rw [Sf.cp_3 hc0 hlp hpw] <;> rfl) | (rw [Sf.cp_4 hc0 hlp hpw hbn (by decide)] <;> rfl) | (have hke : k = l.length := (by omega); subst hke; rw [Sf.cp_5 hc0 hlp hpw hbad] <;> rfl)
   have hpw : ¬ ∀ x ∈ p, 0 ≤ x ∧ x ≤ 8 := by have hq := (zG hc16); simpa using hq
   refine zO Z (zG hc16) (zr (oA hH15 Z (oA hH15 Z (zt (ret (yD (z2 ?_)))))))
   have hH101 := (hH15.sub (sC (sC (sC sR))))
   refine fin hH101 (fun w' hf => (xI Z (rt Z) (rt Z))) (fun w' hf => ?_)
   first | (rw [Sf.cp_1 hcn] <;> rfl) | (rw [Sf.cp_2 hc0 hlp] <;> rfl) | (rw [Sf.cp_3 hc0 hlp hpw] <;> rfl) | (rw [Sf.cp_4 hc0 hlp hpw hbn (by decide)] <;> rfl) | (have hke : k = l.length := (by omega); subst hke; rw [Sf.cp_5 hc0 hlp hpw hbad] <;> rfl)
  have hlp : ¬ p.length = l.length := by omega
  refine zO Z (zG hc13) (zr (oA hH11 Z (oA hH11 Z (zt (ret (yD (z2 ?_)))))))
  have hH102 := (hH11.sub (sC (sC (sC sR))))
  refine fin hH102 (fun w' hf => (xI Z (rt Z) (rt Z))) (fun w' hf => ?_)
  first | (rw [Sf.cp_1 hcn] <;> rfl) | (rw [Sf.cp_2 hc0 hlp] <;> rfl) | (rw [Sf.cp_3 hc0 hlp hpw] <;> rfl) | (rw [Sf.cp_4 hc0 hlp hpw hbn (by decide)] <;> rfl) | (have hke : k = l.length := (by omega); subst hke; rw [Sf.cp_5 hc0 hlp hpw hbad] <;> rfl)
 have hcn : ¬ Sf.ck room l = 0 := ‹_›
 refine region (zA hH3 Z Z (zW (cs := [(.int .i64 room), v]) T.xZ Z Z (fun _ hw => Heap.yI hw (n := 0) Z (k := 0) Z)) (zN Z Z Z hH3 (zA4 (h0.now hH3 (n := 1) Z) om hcn) (fun w103 hH104 => (oM hH104 Z (zA hH104 Z Z (zI Z Z) (zA hH104 Z Z (zI Z Z) (oA hH104 Z (oA hH104 Z (zt (seq (block (zr (oM hH104 Z (zA hH104 Z Z (yH Z Z) (oA hH104 Z (zt ?_))))))))))))))))
 have hc105 : ¬ ((Sf.ck room l) = 0) := hcn
 refine zO Z (zG hc105) (zr (oM hH104 Z (oA hH104 Z (oA hH104 Z (zt (ret (yD (z2 ?_))))))))
 have hH106 := (hH104.sub (sC sR))
 refine fin hH106 (fun w' hf => (xI Z (rt Z) (rt Z))) (fun w' hf => ?_)
 first | (rw [Sf.cp_1 hcn] <;> rfl) | (rw [Sf.cp_2 hc0 hlp] <;> rfl) | (rw [Sf.cp_3 hc0 hlp hpw] <;> rfl) | (rw [Sf.cp_4 hc0 hlp hpw hbn (by decide)] <;> rfl) | (have hke : k = l.length := (by omega); subst hke; rw [Sf.cp_5 hc0 hlp hpw hbad] <;> rfl)
end Go.Fip
namespace Go.Fip
namespace Sf
def ends (m : Mm) (i : Nat) : Nat → List (Int × Int)
 | 0 => []
 | j + 1 => ends m i j ++ if 0 < (find ((j : Int), (i : Int)) m).getD 0 then [((j : Int), (i : Int))] else []
def lst (m : Mm) : Nat → List (Int × Int)
 | 0 => []
 | i + 1 => lst m i ++ ends m i i
theorem ends_t {m : Mm} {i j : Nat} (h : 0 < (find ((j : Int), (i : Int)) m).getD 0) : ends m i (j + 1) = ends m i j ++ [((j : Int), (i : Int))] := by show _ ++ (if _ then _ else _) = _; rw [if_pos h]
theorem ends_f {m : Mm} {i j : Nat} (h : ¬ 0 < (find ((j : Int), (i : Int)) m).getD 0) : ends m i (j + 1) = ends m i j := by show _ ++ (if _ then _ else _) = _; rw [if_neg h, List.append_nil]
theorem zAr {m : Mm} {i : Nat} : ∀ {j n : Nat}, j ≤ n → ∃ t, ends m i n = ends m i j ++ t := fun {j n} h => by
 obtain ⟨d, rfl⟩ : ∃ d, n = j + d := ⟨n - j, by omega⟩
 clear h
 induction d with
 | zero => exact ⟨[], by simp⟩
 | succ d ih =>
  obtain ⟨t, ht⟩ := ih
  exact ⟨t ++ _, by show ends m i (j + d) ++ _ = _; rw [ht, List.append_assoc]⟩
theorem zB9 {m : Mm} : ∀ {i n : Nat}, i ≤ n → ∃ t, lst m n = lst m i ++ t := fun {i n} h => by
 obtain ⟨d, rfl⟩ : ∃ d, n = i + d := ⟨n - i, by omega⟩
 clear h
 induction d with
 | zero => exact ⟨[], by simp⟩
 | succ d ih =>
  obtain ⟨t, ht⟩ := ih
  exact ⟨t ++ _, by show lst m (i + d) ++ _ = _; rw [ht, List.append_assoc]⟩
theorem lst_at {m : Mm} {n i j : Nat} (hi : i < n) (hj : j < i) (h : 0 < (find ((j : Int), (i : Int)) m).getD 0) : ((lst m n).map kvS)[(lst m i ++ ends m i j).length]? = some (kvS ((j : Int), (i : Int))) := by
 obtain ⟨t, ht⟩ := zB9 (m := m) (show i + 1 ≤ n from hi)
 obtain ⟨u, hu⟩ := zAr (m := m) (i := i) (show j + 1 ≤ i from hj)
 rw [ht, show lst m (i + 1) = lst m i ++ ends m i i from rfl, hu, ends_t h, List.getElem?_map]
 rw [List.append_assoc, List.append_assoc, List.append_assoc, ← List.append_assoc, List.getElem?_append_right (Nat.le_refl _), Nat.sub_self]
 rfl
theorem W5 {m : Mm} {i : Nat} : ∀ j, (ends m i j).length ≤ j
 | 0 => Nat.le_refl _
 | j + 1 => by
  have := W5 (m := m) (i := i) j
  by_cases h : 0 < (find ((j : Int), (i : Int)) m).getD 0
  ·rw [ends_t h, List.length_append]; simp only [List.length_cons, List.length_nil]; omega
  ·rw [ends_f h]; omega
theorem lst_len {m : Mm} : ∀ i, i ≤ 16 → (lst m i).length ≤ 16 * i
 | 0, _ => Nat.le_refl _
 | i + 1, h => by
  have h1 := lst_len (m := m) i (by omega)
  have h2 := W5 (m := m) (i := i) i
  show (lst m i ++ ends m i i).length ≤ _
  rw [List.length_append]; omega
def hit (ts : List Int) (p : Int × Int) : Bool := has (fun t : Int => decide (p.1 < t ∧ t < p.2)) ts
def missed (m : Mm) (n : Nat) (ts : List Int) : Nat := ((lst m n).filter fun p => !hit ts p).length
def pv (room : Int) (l : List Int) (m : Mm) (ts : List Int) : Int := (l.length : Int) - (ts.length : Int) * (room - 1) - (missed m l.length ts : Int)
theorem mis_t {ts : List Int} {xs : List (Int × Int)} {i : Nat} (hi : i < xs.length) (h : hit ts (nth xs (i : Int)) = false) : (((xs.take (i + 1)).filter fun p => !hit ts p).length : Int) = (((xs.take i).filter fun p => !hit ts p).length : Int) + 1 := by
 rw [← uV hi, List.filter_append]; simp [h]
theorem mis_f {ts : List Int} {xs : List (Int × Int)} {i : Nat} (hi : i < xs.length) (h : hit ts (nth xs (i : Int)) = true) : (((xs.take (i + 1)).filter fun p => !hit ts p).length : Int) = (((xs.take i).filter fun p => !hit ts p).length : Int) := by
 rw [← uV hi, List.filter_append]; simp [h]
end Sf
end Go.Fip
namespace Go.Fip
open Go.Proofs Go.RowKit
abbrev BW (b1 bb mb : Nat) (room : Int) (v : Value) (C : List Int) (m : Sf.Mm) (l : List Int) (w : World) : Prop := Bx b1 76 [.pointer (some ⟨bb, 0, none⟩)] w ∧ Bx bb 148 (seg [.int .i64 room, v] C [.map (some mb)]) w ∧ Mp Sf.kvS Sf.vvI mb m w ∧ Rd encI 1 v l w
theorem JX {b1 bb mb : Nat} {room : Int} {v : Value} {C l : List Int} {m : Sf.Mm} (hC : C.length = 9) (hn : l.length ≤ 16) :
  Iter Tryz.prog 186 [(.pointer (some ⟨b1, 0, none⟩))] (BW b1 bb mb room v C m l) (((Sf.lst m l.length).map Sf.kvS)) := by
 refine VW (N := 37) Tryz.func186 Z (ent Tryz.func186 kz Z) Z Z Z (fun yl J Jx hJ hJx hD hY w hH => (zr (zA hH Z Z (zF T.W6 Z (fun _ hw => yM ((hD _ _ (hw.get (n := 0) Z)).1) Z)) (zA hH Z Z (yQ Z) (zA hH Z Z (zJ T.vX Z) (zA hH Z Z (zJ T.vP Z) (zA hH Z Z (xV T.xK Z (by rfl) Z (fun _ hw => ((hD _ _ (hw.get (n := 0) Z)).2.1))) (zA hH Z Z (yA T.yV Z ((hD _ _ (hH.get (n := 0) Z)).2.2.2).is) (oM hH Z (zt (block (loop (S := Nat × Nat × World) (fun (i, q, wj) => [(12, (.int .i64 (i : Int))), (0, (.func (.yield yl) #[] #[])), (1, (.pointer (some ⟨b1, 0, none⟩))), (11, (.int .i64 (l.length : Int)))]) (fun (i, q, wj) w1 => Heap [jItem wj (J q)] w1 ∧ i ≤ l.length ∧ q = (Sf.lst m i).length) (fun (i, q, wj) => l.length - i) (0, 0, w) (uC Z (uC Z (uC Z (uC Z (Sub.nil _))))) ?_ ?_))))))))))))
 ·exact ⟨hH, by omega, Z⟩
 rintro ⟨i, q, wj⟩ w1 ⟨hH2, hi, hq⟩
 refine zr (zA hH2 Z Z (yK Z Z) (zt (seq ?_)))
 by_cases hc3 : (i : Int) < (l.length : Int)
 ·refine zO Z (dT hc3) (skip (zP (seq (block (zr (oM hH2 Z (oA hH2 Z (zs (oM hH2 Z (oM hH2 Z (zt (block (loop (S := Nat × Nat × World) (fun (j, q2, wj2) => [(16, (.int .i64 (j : Int))), (0, (.func (.yield yl) #[] #[])), (1, (.pointer (some ⟨b1, 0, none⟩))), (3, (.int .i64 (i : Int))), (11, (.int .i64 (l.length : Int))), (12, (.int .i64 (i : Int))), (15, (.int .i64 (i : Int)))]) (fun (j, q2, wj2) w1 => Heap [jItem wj2 (J q2)] w1 ∧ j ≤ i ∧ q2 = (Sf.lst m i ++ Sf.ends m i j).length) (fun (j, q2, wj2) => i - j) (0, q, wj) (uC Z (uC Z (uC Z (uC Z (uC Z (uC Z (uC Z (Sub.nil _)))))))) ?_ ?_)))))))))))))
  ·exact ⟨hH2, by omega, by rw [hq]; simp [Sf.ends]⟩
  rintro ⟨j, q2, wj2⟩ w4 ⟨hH5, hj, hq2⟩
  refine zr (zA hH5 Z Z (yK Z Z) (zt (seq ?_)))
  by_cases hc6 : (j : Int) < (i : Int)
  ·refine zO Z (dT hc6) (skip (zP (seq (block (zr (oM hH5 Z (oA hH5 Z (zs (oM hH5 Z (oM hH5 Z (zA hH5 Z Z (yS (v := (.agg #[(.int .i64 (j : Int)), (.int .i64 (i : Int))])) Z (fun w => by kernel_rfl)) (yC (z := (.agg #[(.int .i64 0), (.int .i64 0)])) (fun _ => by kernel_rfl) Z Z hH5 (fun b7 w8 hH9 => (zU (n := 0) (j := 0) Z Z hH9 Z T.GB Z Z Z (by rfl) (fun w10 hH11 => (zt (seq (zZ (fun w' => True) T.mixed (fun w12 hr13 => ?_)))))))))))))))))))
   have hH14 := hH11.redrawn hr13
   refine xH [0, 4] kz Z (⟨⟨_, Z, ?_⟩, ⟨_, Z, ?_⟩, trivial⟩)
   ·refine zA hH14 Z Z (zF T.W6 Z (fun _ hw => yM ((hD _ _ (hw.get (n := 1) Z)).1) Z)) (zD (⟨trivial, (zK [1, 2] kz trivial _ _ _ kz (zL Z Z (yQ Z) (zL Z Z (zJ T.XZ Z) (zV (xH [3, 4] kz Z (⟨⟨_, Z, ?_⟩, ⟨_, Z, ?_⟩, trivial⟩))))))⟩))
    ·refine zA hH14 Z Z (qE (m := 9) (j := 0) T.ZB Z (by first | omega | (simp only [List.length_set]; omega)) (by rfl) Z (fun _ hw => ((hD _ _ (hw.get (n := 1) Z)).2.1))) (zD (⟨trivial, (z1 4 kz Z (zA hH14 Z Z (zW (cs := [(.int .i64 (j : Int)), (.int .i64 (i : Int))]) T.YB Z Z (fun _ hw => Heap.yI hw (n := 0) Z (k := 0) Z)) (zD (⟨trivial, (z1 5 kz Z (zA hH14 Z Z (kO (k := (((j : Int), (i : Int)) : Int × Int)) T.K8 Z Z (fun _ hw => ((hD _ _ (hw.get (n := 1) Z)).2.2.1))) (zD (⟨trivial, (zK [6, 7] kz trivial _ _ _ kz (zL Z Z (xJ Z Z) (qM Z Z Z (zV ?_))))⟩))))⟩))))⟩))
     by_cases hc15 : 0 < ((find (((j : Int), (i : Int)) : Int × Int) m).getD 0)
     ·have hgt : 0 < (find ((j : Int), (i : Int)) m).getD 0 := by have hq9 := (decide_eq_true hc15); simpa using hq9
      refine zK [8] kz trivial _ _ _ kz (yE Z Z Z (dT hc15) Z (y9 Z) (zV (z1 9 kz Z (zB Z Z (dT hc15) (zA hH14 Z Z (zW (cs := [(.int .i64 (j : Int)), (.int .i64 (i : Int))]) T.YB Z Z (fun _ hw => Heap.yI hw (n := 0) Z (k := 0) Z)) (zD (⟨trivial, (z1 10 kz Z (zB Z Z (dT hc15) (uF Z Z Z (hY q2 _ (by rw [hq2]; exact Sf.lst_at om om hgt) _ (hH14.get (n := 1) Z)) (fun w16 hA17 => ?_) (fun w16 hA17 => ?_))))⟩)))))))
      ·have hH18 := xL (J := J (q2 + 1)) (hJ (q2 + 1)) hA17
       refine zD (⟨trivial, (zK [11, 12] kz trivial _ _ _ kz (yE Z Z Z (dT hc15) Z (y7 Z) (zL Z Z (zR Z (dT hc15) Z) (zV (zY kz (zP (zM Z Z (skip (yB (zP (region (zA hH18 Z Z (zX Z Z om) (oM hH18 Z (zD (yY (j + 1, q2 + 1, w16) (uC Z (uC Z (uC Z (uC Z (uC Z (uC Z (uC Z (Sub.nil _)))))))) ?_ ?_)))))))))))))))⟩)
       ·exact ⟨hH18, by omega, by rw [Sf.ends_t hgt, ← List.append_assoc, List.length_append, ← hq2]; rfl⟩
       ·first | (dsimp only; omega) | (show _ < _; omega)
      have hH18 := xL (J := Jx) hJx hA17
      refine zD (⟨trivial, (zK [11, 12] kz trivial _ _ _ kz (yE Z Z Z (dT hc15) Z (y7 Z) (zL Z Z (zR Z (dT hc15) Z) (zV (zY kz (zP (zO Z Z (ret (yD (z2 (xT (yD (yD (z2 (xT (yD ?_))))))))))))))))⟩)
      exact ⟨Z, .inr (hH18.get (n := 0) Z)⟩
     have hgf : ¬ 0 < (find ((j : Int), (i : Int)) m).getD 0 := by have hq9 := (decide_eq_false hc15); simpa using hq9
     refine zK [8, 9, 10, 11, 12] kz trivial _ _ _ kz (yT Z Z Z (dF hc15) Z (yT Z Z Z (dF hc15) Z (yT Z Z Z (dF hc15) Z (yT Z Z Z (dF hc15) Z (zL Z Z (zT Z (dF hc15) Z) (zV (zY kz (zP (zM Z Z (skip (yB (zP (region (zA hH14 Z Z (zX Z Z om) (oM hH14 Z (zD ?_))))))))))))))))
     have hH19 := (hH14.sub (sC sR))
     refine yY (j + 1, q2, wj2) (uC Z (uC Z (uC Z (uC Z (uC Z (uC Z (uC Z (Sub.nil _)))))))) ?_ ?_
     ·exact ⟨hH19, by omega, by rw [Sf.ends_f hgf]; exact hq2⟩
     ·first | (dsimp only; omega) | (show _ < _; omega)
    refine zA hH14 Z Z (zW (cs := [(.int .i64 (j : Int)), (.int .i64 (i : Int))]) T.YB Z Z (fun _ hw => Heap.yI hw (n := 0) Z (k := 0) Z)) (zD (⟨trivial, (z1 3 kz Z (zA hH14 Z Z (qE (m := 9) (j := 0) T.ZB Z (by first | omega | (simp only [List.length_set]; omega)) (by rfl) Z (fun _ hw => ((hD _ _ (hw.get (n := 1) Z)).2.1))) (zD (⟨trivial, (z1 5 kz Z (zA hH14 Z Z (kO (k := (((j : Int), (i : Int)) : Int × Int)) T.K8 Z Z (fun _ hw => ((hD _ _ (hw.get (n := 1) Z)).2.2.1))) (zD (⟨trivial, (zK [6, 7] kz trivial _ _ _ kz (zL Z Z (xJ Z Z) (qM Z Z Z (zV ?_))))⟩))))⟩))))⟩))
    by_cases hc20 : 0 < ((find (((j : Int), (i : Int)) : Int × Int) m).getD 0)
    ·have hgt : 0 < (find ((j : Int), (i : Int)) m).getD 0 := by have hq9 := (decide_eq_true hc20); simpa using hq9
     refine zK [8] kz trivial _ _ _ kz (yE Z Z Z (dT hc20) Z (y9 Z) (zV (z1 9 kz Z (zB Z Z (dT hc20) (zA hH14 Z Z (zW (cs := [(.int .i64 (j : Int)), (.int .i64 (i : Int))]) T.YB Z Z (fun _ hw => Heap.yI hw (n := 0) Z (k := 0) Z)) (zD (⟨trivial, (z1 10 kz Z (zB Z Z (dT hc20) (uF Z Z Z (hY q2 _ (by rw [hq2]; exact Sf.lst_at om om hgt) _ (hH14.get (n := 1) Z)) (fun w21 hA22 => ?_) (fun w21 hA22 => ?_))))⟩)))))))
     ·have hH23 := xL (J := J (q2 + 1)) (hJ (q2 + 1)) hA22
      refine zD (⟨trivial, (zK [11, 12] kz trivial _ _ _ kz (yE Z Z Z (dT hc20) Z (y7 Z) (zL Z Z (zR Z (dT hc20) Z) (zV (zY kz (zP (zM Z Z (skip (yB (zP (region (zA hH23 Z Z (zX Z Z om) (oM hH23 Z (zD (yY (j + 1, q2 + 1, w21) (uC Z (uC Z (uC Z (uC Z (uC Z (uC Z (uC Z (Sub.nil _)))))))) ?_ ?_)))))))))))))))⟩)
      ·exact ⟨hH23, by omega, by rw [Sf.ends_t hgt, ← List.append_assoc, List.length_append, ← hq2]; rfl⟩
      ·first | (dsimp only; omega) | (show _ < _; omega)
     have hH23 := xL (J := Jx) hJx hA22
     refine zD (⟨trivial, (zK [11, 12] kz trivial _ _ _ kz (yE Z Z Z (dT hc20) Z (y7 Z) (zL Z Z (zR Z (dT hc20) Z) (zV (zY kz (zP (zO Z Z (ret (yD (z2 (xT (yD (yD (z2 (xT (yD ?_))))))))))))))))⟩)
     exact ⟨Z, .inr (hH23.get (n := 0) Z)⟩
    have hgf : ¬ 0 < (find ((j : Int), (i : Int)) m).getD 0 := by have hq9 := (decide_eq_false hc20); simpa using hq9
    refine zK [8, 9, 10, 11, 12] kz trivial _ _ _ kz (yT Z Z Z (dF hc20) Z (yT Z Z Z (dF hc20) Z (yT Z Z Z (dF hc20) Z (yT Z Z Z (dF hc20) Z (zL Z Z (zT Z (dF hc20) Z) (zV (zY kz (zP (zM Z Z (skip (yB (zP (region (zA hH14 Z Z (zX Z Z om) (oM hH14 Z (zD ?_))))))))))))))))
    have hH24 := (hH14.sub (sC sR))
    refine yY (j + 1, q2, wj2) (uC Z (uC Z (uC Z (uC Z (uC Z (uC Z (uC Z (Sub.nil _)))))))) ?_ ?_
    ·exact ⟨hH24, by omega, by rw [Sf.ends_f hgf]; exact hq2⟩
    ·first | (dsimp only; omega) | (show _ < _; omega)
   refine zA hH14 Z Z (zW (cs := [(.int .i64 (j : Int)), (.int .i64 (i : Int))]) T.YB Z Z (fun _ hw => Heap.yI hw (n := 0) Z (k := 0) Z)) (zD (⟨trivial, (z1 0 kz Z (zA hH14 Z Z (zF T.W6 Z (fun _ hw => yM ((hD _ _ (hw.get (n := 1) Z)).1) Z)) (zD (⟨trivial, (zK [1, 2] kz trivial _ _ _ kz (zL Z Z (yQ Z) (zL Z Z (zJ T.XZ Z) (zV (z1 3 kz Z (zA hH14 Z Z (qE (m := 9) (j := 0) T.ZB Z (by first | omega | (simp only [List.length_set]; omega)) (by rfl) Z (fun _ hw => ((hD _ _ (hw.get (n := 1) Z)).2.1))) (zD (⟨trivial, (z1 5 kz Z (zA hH14 Z Z (kO (k := (((j : Int), (i : Int)) : Int × Int)) T.K8 Z Z (fun _ hw => ((hD _ _ (hw.get (n := 1) Z)).2.2.1))) (zD (⟨trivial, ?_⟩))))⟩))))))))⟩))))⟩))
   refine zK [6, 7] kz trivial _ _ _ kz (zL Z Z (xJ Z Z) (qM Z Z Z (zV ?_)))
   by_cases hc25 : 0 < ((find (((j : Int), (i : Int)) : Int × Int) m).getD 0)
   ·have hgt : 0 < (find ((j : Int), (i : Int)) m).getD 0 := by have hq9 := (decide_eq_true hc25); simpa using hq9
    refine zK [8] kz trivial _ _ _ kz (yE Z Z Z (dT hc25) Z (y9 Z) (zV (z1 9 kz Z (zB Z Z (dT hc25) (zA hH14 Z Z (zW (cs := [(.int .i64 (j : Int)), (.int .i64 (i : Int))]) T.YB Z Z (fun _ hw => Heap.yI hw (n := 0) Z (k := 0) Z)) (zD (⟨trivial, (z1 10 kz Z (zB Z Z (dT hc25) (uF Z Z Z (hY q2 _ (by rw [hq2]; exact Sf.lst_at om om hgt) _ (hH14.get (n := 1) Z)) (fun w26 hA27 => ?_) (fun w26 hA27 => ?_))))⟩)))))))
    ·have hH28 := xL (J := J (q2 + 1)) (hJ (q2 + 1)) hA27
     refine zD (⟨trivial, (zK [11, 12] kz trivial _ _ _ kz (yE Z Z Z (dT hc25) Z (y7 Z) (zL Z Z (zR Z (dT hc25) Z) (zV (zY kz (zP (zM Z Z (skip (yB (zP (region (zA hH28 Z Z (zX Z Z om) (oM hH28 Z (zD (yY (j + 1, q2 + 1, w26) (uC Z (uC Z (uC Z (uC Z (uC Z (uC Z (uC Z (Sub.nil _)))))))) ?_ ?_)))))))))))))))⟩)
     ·exact ⟨hH28, by omega, by rw [Sf.ends_t hgt, ← List.append_assoc, List.length_append, ← hq2]; rfl⟩
     ·first | (dsimp only; omega) | (show _ < _; omega)
    have hH28 := xL (J := Jx) hJx hA27
    refine zD (⟨trivial, (zK [11, 12] kz trivial _ _ _ kz (yE Z Z Z (dT hc25) Z (y7 Z) (zL Z Z (zR Z (dT hc25) Z) (zV (zY kz (zP (zO Z Z (ret (yD (z2 (xT (yD (yD (z2 (xT (yD ?_))))))))))))))))⟩)
    exact ⟨Z, .inr (hH28.get (n := 0) Z)⟩
   have hgf : ¬ 0 < (find ((j : Int), (i : Int)) m).getD 0 := by have hq9 := (decide_eq_false hc25); simpa using hq9
   refine zK [8, 9, 10, 11, 12] kz trivial _ _ _ kz (yT Z Z Z (dF hc25) Z (yT Z Z Z (dF hc25) Z (yT Z Z Z (dF hc25) Z (yT Z Z Z (dF hc25) Z (zL Z Z (zT Z (dF hc25) Z) (zV (zY kz (zP (zM Z Z (skip (yB (zP (region (zA hH14 Z Z (zX Z Z om) (oM hH14 Z (zD ?_))))))))))))))))
   have hH29 := (hH14.sub (sC sR))
   refine yY (j + 1, q2, wj2) (uC Z (uC Z (uC Z (uC Z (uC Z (uC Z (uC Z (Sub.nil _)))))))) ?_ ?_
   ·exact ⟨hH29, by omega, by rw [Sf.ends_f hgf]; exact hq2⟩
   ·first | (dsimp only; omega) | (show _ < _; omega)
  refine zM Z (dF hc6) (exit (yX (xF (z7 (yB (zP (region (zA hH5 Z Z (zX Z Z om) (oM hH5 Z (zD (yY (i + 1, q2, wj2) (uC Z (uC Z (uC Z (uC Z (Sub.nil _))))) ?_ ?_)))))))))))
  ·exact ⟨hH5, by omega, by rw [hq2, show j = i by omega]; rfl⟩
  ·first | (dsimp only; omega) | (show _ < _; omega)
 refine zM Z (dF hc3) (exit (yX (xF (z7 ?_))))
 have hke : i = l.length := by omega
 have hql : q = ((Sf.lst m l.length).map Sf.kvS).length := by rw [hq, List.length_map, hke]
 exact ⟨Z, .inl (by rw [← hql]; exact hH2.get (n := 0) rfl)⟩
end Go.Fip
namespace Go.Fip
open Go.Proofs Go.RowKit
theorem Heap.zBl {bb lo hi n c : Nat} {H : List Item} {w : World} (hH : Heap H w)
  (hn : H[n]? = some ⟨lo, hi, fun w => ∃ c1 : Nat, (Value.func (.func 186) #[] #[.pointer (some ⟨c, 0, none⟩)] : Value) = .func (.func 186) #[] #[.pointer (some ⟨c1, 0, none⟩)] ∧ Bx c1 76 [.pointer (some ⟨bb, 0, none⟩)] w⟩) :
  Heap (H.set n ⟨lo, hi, Bx c 76 [.pointer (some ⟨bb, 0, none⟩)]⟩) w := hH.weaken hn (φ := Bx c 76 [.pointer (some ⟨bb, 0, none⟩)]) (fun w' h => by
 obtain ⟨c1, e, h⟩ := h
 cases e
 exact h)
theorem zBn {bb : Nat} {w : World}  :
  Fn Tryz.prog 158 [(.pointer (some ⟨bb, 0, none⟩))].toArray w (fun u w => ∃ c1 : Nat, u = .func (.func 186) #[] #[.pointer (some ⟨c1, 0, none⟩)] ∧ Bx c1 76 [.pointer (some ⟨bb, 0, none⟩)] w) := by
 refine fz Tryz.func158 Z kz Z Z (fun hH => (zr (yW Z Z Z hH (fun b1 w2 hH3 => (oA hH3 Z (zs (zA hH3 Z Z (vB Z Z) (oA hH3 Z (zt (ret (fin (hH3.front (n := 1) Z) (fun w' hf => (yN Z (rt Z))) (fun w' hf => ?_))))))))))))
 exact ⟨_, Z, Heap.xS hf (n := 0) Z⟩
theorem zEm {x a b : Int} {b1 : Nat} {w : World} (k1 : Bx b1 212 [.int .i64 a, .int .i64 b] w)  :
  Fn Tryz.prog 159 [(.int .i64 x), (.pointer (some ⟨b1, 0, none⟩))].toArray w (fun u _ => u = .bool (decide (a < x ∧ x < b))) := by
 refine fz Tryz.func159 Z kz Z Z (fun hH => (zr (oA hH Z (zs (oM hH Z (zA hH Z Z (zJ T.XW Z) (zA hH Z Z (zF T.yU Z (fun _ hw => yM (k1.now hw (n := 0) Z) Z)) (zA hH Z Z (xJ Z Z) (oM hH Z ?_)))))))))
 by_cases hc1 : a < x
 ·refine zB Z Z (dT hc1) (oM hH Z (zB Z Z (dT hc1) (zA hH Z Z (zJ T.ZF Z) (zB Z Z (dT hc1) (zA hH Z Z (zF T.yU Z (fun _ hw => yM (k1.now hw (n := 0) Z) Z)) (zB Z Z (dT hc1) (zA hH Z Z (yK Z Z) (zA hH Z Z (zR Z (dT hc1) Z) (oA hH Z (zt (ret (fin hH (fun w' hf => (yN Z (rt Z))) (fun w' hf => ?_)))))))))))))
  first | (show Value.bool _ = Value.bool _; congr 1; rw [Bool.eq_iff_iff]; simp; done) | (show Value.bool _ = Value.bool _; congr 1; rw [Bool.eq_iff_iff]; simp; omega)
 refine zE Z Z (dF hc1) Z (zE Z Z (dF hc1) Z (zE Z Z (dF hc1) Z (zE Z Z (dF hc1) Z (zA hH Z Z (zT Z (dF hc1) Z) (oA hH Z (zt (ret (fin hH (fun w' hf => (yN Z (rt Z))) (fun w' hf => ?_)))))))))
 first | (show Value.bool _ = Value.bool _; congr 1; rw [Bool.eq_iff_iff]; simp; done) | (show Value.bool _ = Value.bool _; congr 1; rw [Bool.eq_iff_iff]; simp; omega)
theorem zCg {v : Value} {l : List Int} {a b : Int} {b1 : Nat} {w : World} (h0 : Rd encI 1 v l w) (k1 : Bx b1 212 [.int .i64 a, .int .i64 b] w) (hn : l.length ≤ 1000000)  :
  Fn Tryz.prog 148 [v, (.func (.func 159) #[] #[(.pointer (some ⟨b1, 0, none⟩))])].toArray w (fun u _ => u = .int .i64 (idx (fun x : Int => decide (a < x ∧ x < b)) l)) := by
 refine fz Tryz.func148 Z kz Z Z (fun hH => (zr (oA hH Z (zt (seq (zr (oM hH Z (zA hH Z Z (yA T.yV Z (h0.now hH (n := 0) Z).is) (oM hH Z (zt (block (loop (S := Nat) (fun k => [(8, (.int .i64 (k : Int))), (0, v), (1, (.func (.func 159) #[] #[(.pointer (some ⟨b1, 0, none⟩))])), (7, (.int .i64 (l.length : Int)))]) (fun k w1 => Heap [base w] w1 ∧ k ≤ l.length ∧ ∀ i, i < k → (fun x : Int => decide (a < x ∧ x < b)) (nth l (i : Int)) = false) (fun k => l.length - k) (0) (uC Z (uC Z (uC Z (uC Z (Sub.nil _))))) ?_ ?_))))))))))))
 ·exact ⟨hH, by omega, S.all_zero⟩
 rintro k w1 ⟨hH2, hk, hall⟩
 refine zr (zA hH2 Z Z (yK Z Z) (zt (seq ?_)))
 by_cases hc3 : (k : Int) < (l.length : Int)
 ·refine zO Z (dT hc3) (skip (zP (seq (block (zr (oM hH2 Z (oA hH2 Z (zs (oM hH2 Z (oM hH2 Z (oM hH2 Z (zA hH2 Z Z (zS T.yV Z Z (h0.now hH2 (n := 0) Z).is om) (zA hH2 Z Z (zF T.yU Z (fun _ hw => Rd.at (h0.now hw (n := 0) Z) (i := (k : Int)) om (j := 0) Z)) (zN Z Z Z hH2 (zEm (k1.now hH2 (n := 0) Z)) (fun w4 hH5 => (zt ?_))))))))))))))))
  by_cases hc6 : a < nth l (k : Int) ∧ nth l (k : Int) < b
  ·have hp : (fun x : Int => decide (a < x ∧ x < b)) (nth l (k : Int)) = true := (decide_eq_true hc6)
   refine zO Z (dT hc6) (zr (oM hH5 Z (oA hH5 Z (zt (ret (yD (z2 (xT (yD (z2 (fin hH5 (fun w' hf => (yN Z (rt Z))) (fun w' hf => ?_))))))))))))
   first | exact congrArg (Value.int .i64) (x2 (k := k) (by omega) hall hp).symm | exact congrArg (Value.int .i64) (xQ (fun i hi => hall i (by omega))).symm
  have hp : (fun x : Int => decide (a < x ∧ x < b)) (nth l (k : Int)) = false := (decide_eq_false hc6)
  refine zM Z (dF hc6) (skip (yB (zP (region (zA hH5 Z Z (zX Z Z om) (oM hH5 Z (zD (yY (k + 1) (uC Z (uC Z (uC Z (uC Z (Sub.nil _))))) ?_ ?_))))))))
  ·exact ⟨hH5, by omega, S.all_snoc hall hp⟩
  ·first | (dsimp only; omega) | (show _ < _; omega)
 refine zM Z (dF hc3) (exit (yX (xF (z7 (zu (oA hH2 Z (zt (ret (fin hH2 (fun w' hf => (yN Z (rt Z))) (fun w' hf => ?_))))))))))
 first | exact congrArg (Value.int .i64) (x2 (k := k) (by omega) hall hp).symm | exact congrArg (Value.int .i64) (xQ (fun i hi => hall i (by omega))).symm
theorem zCl {v : Value} {l : List Int} {a b : Int} {b1 : Nat} {w : World} (h0 : Rd encI 1 v l w) (k1 : Bx b1 212 [.int .i64 a, .int .i64 b] w) (hn : l.length ≤ 1000000)  :
  Fn Tryz.prog 128 [v, (.func (.func 159) #[] #[(.pointer (some ⟨b1, 0, none⟩))])].toArray w (fun u _ => u = .bool (has (fun x : Int => decide (a < x ∧ x < b)) l)) := by
 refine fz Tryz.func128 Z kz Z Z (fun hH => (zr (oA hH Z (zs (oM hH Z (oM hH Z (zN Z Z Z hH (zCg (h0.now hH (n := 0) Z) (k1.now hH (n := 0) Z) om) (fun w1 hH2 => (zA hH2 Z Z (vQ Z Z) (oA hH2 Z (zt (ret (fin hH2 (fun w' hf => (yN Z (rt Z))) (fun w' hf => ?_))))))))))))))
 rfl
theorem zD7 {bb mb : Nat} {room : Int} {v : Value} {C : List Int} {w : World} (kb : Bx bb 148 (seg [.int .i64 room, v] C [.map (some mb)]) w) (hC : C.length = 9) {l : List Int} (h0 : Rd encI 1 v l w) (hn : l.length ≤ 16) {m : Sf.Mm} (hm : Mp Sf.kvS Sf.vvI mb m w) {vt : Value} {ts : List Int} (ht : Rd encI 1 vt ts w) (htn : ts.length ≤ 100) (hr : 1 ≤ room ∧ room ≤ 6)  :
  Fn Tryz.prog 121 [(.pointer (some ⟨bb, 0, none⟩)), vt].toArray w (fun u _ => u = .int .i64 (Sf.pv room l m ts)) := by
 refine fz Tryz.func121 Z kz Z Z (fun hH => ?_)
 have hll := Sf.lst_len (m := m) l.length hn
 have hmb : 0 ≤ (ts.length : Int) * (room - 1) := Int.mul_nonneg (by omega) (by omega)
 have hmb2 : (ts.length : Int) * (room - 1) ≤ 100 * 5 := Int.mul_le_mul (by omega) (by omega) (by omega) (by omega)
 refine zr (yW (us := [vt]) Z (SliceIs.cells (ht.now hH (n := 0) Z).is) Z hH (fun b1 w2 hH3 => (oA hH3 Z (zt (seq (zZ (fun w' => Heap [bx b1 46 [vt], base w] w') T.mixed (fun w4 hr5 => ?_)))))))
 have hH6 := hH3.redrawn hr5
 refine zK [0, 1, 2, 3, 4, 5, 6, 7, 8, 9, 10, 11, 12, 13, 14, 15] kz hH6 _ _ _ kz (qM Z Z Z (zL Z Z (yQ Z) (zL Z Z (zJ T.vX Z) (zL Z Z (zJ T.vP Z) (zL Z Z (xV T.xK Z (by rfl) Z (fun _ hw => (kb.now hw (n := 1) Z))) (zL Z Z (yA T.yV Z (h0.now hH6 (n := 1) Z).is) (zL Z Z (zF T.xK Z (cw (n := 0) Z Z)) (zL Z Z (yA T.yV Z (ht.now hH6 (n := 1) Z).is) (qM Z Z Z (zL Z Z (yQ Z) (zL Z Z (zJ T.vX Z) (zL Z Z (zJ T.Y2 Z) (zL Z Z (xV T.yU Z (by rfl) Z (fun _ hw => (kb.now hw (n := 1) Z))) (zL Z Z (xB Z Z om) (zL Z Z (xC Z Z om) (zL Z Z (x5 (show (l.length : Int) - ((ts.length : Int) * (room - 1)) = (((l.length : Int) - (ts.length : Int) * (room - 1) - ((((Sf.lst m l.length).take 0).filter fun p => !Sf.hit ts p).length : Int))) from (by rw [List.take_zero, List.filter_nil, List.length_nil]; exact (Int.sub_zero _).symm)) (xB Z Z om)) (zV (z1 16 kz Z (yC (z := (.int .i64 0)) (fun _ => by kernel_rfl) Z Z hH6 (fun b7 w8 hH9 => (zD ?_)))))))))))))))))))))
 refine ⟨(hH9.sub (sC sR)), (z1 17 kz Z (zU (n := 0) (j := 0) Z Z hH9 Z T.sz3 Z Z Z (by rfl) (fun w10 hH11 => (zD (⟨(hH11.sub (sC sR)), (zY kz (zP (seq (zr (oM hH11 Z (y2 Z Z Z hH11 (zBn) (fun u15 w13 lo16 hi17 hH14 hv18 => ?_)))))))⟩)))))⟩
 obtain ⟨c12, hu, -⟩ := hv18
 subst hu
 have hH19 := Heap.zBl hH14 (n := 0) Z
 refine zt (block (rangeFunc (xs := ((Sf.lst m l.length).map Sf.kvS)) Z (JX (bb := bb) (mb := mb) (room := room) (v := v) (C := C) (l := l) (m := m) hC hn) Z hH19 (fun i H => H = [⟨lo16, hi17, Bx c12 76 [.pointer (some ⟨bb, 0, none⟩)]⟩, bx b7 3 [(.int .i64 (((l.length : Int) - (ts.length : Int) * (room - 1) - ((((Sf.lst m l.length).take i).filter fun p => !Sf.hit ts p).length : Int))))], bx b1 46 [vt], base w] ∧ True) (fun c H => False) ⟨Z, trivial⟩ (fun i H w hI hw => ?_) (fun l20 D21 i22 x23 H w25 rc hx24 hI hH26 => ?_) (fun D21 H w25 hI hH26 => ?_) (fun D21 c H w25 hI hH26 => ?_)))
 ·obtain ⟨rfl, _⟩ := hI
  exact (show BW c12 bb mb room v C m l _ from ⟨hw.get (n := 0) Z, kb.now hw (n := 3) Z, hm.now hw (n := 3) Z, h0.now hw (n := 3) Z⟩)
 ·obtain ⟨rfl, _⟩ := hI
  obtain ⟨hlt, hxe⟩ := j5 hx24
  subst hxe
  have hcl := List.length_filter_le (fun p => !Sf.hit ts p) ((Sf.lst m l.length).take i22)
  have hcl2 := List.length_take_le i22 (Sf.lst m l.length)
  refine region (yC (z := (.agg #[(.int .i64 0), (.int .i64 0)])) (fun _ => by kernel_rfl) Z Z hH26 (fun b29 w30 hH31 => (zU (n := 0) (j := 0) Z Z hH31 Z T.GB Z Z Z (by rfl) (fun w32 hH33 => (zD ?_)))))
  have hH36 := hH33.front (n := 1) Z
  refine ⟨_, hH36, fun w34 hH35 => (block (zr (zA hH35 Z Z (zF T.xK Z (cw (n := 5) Z Z)) (zA hH35 Z Z (vB Z Z) (zN Z Z Z hH35 (zCl (ht.now hH35 (n := 6) Z) (Heap.xS hH35 (n := 1) Z) om) (fun w37 hH38 => (zA hH38 Z Z (y7 Z) (zt ?_))))))))⟩
  by_cases hc39 : (!(Sf.hit ts ((nth (Sf.lst m l.length) (i22 : Int)).1, (nth (Sf.lst m l.length) (i22 : Int)).2))) = true
  ·have hnh : Sf.hit ts (nth (Sf.lst m l.length) (i22 : Int)) = false := by have hq := hc39; simpa using hq
   refine zO Z hc39 (region (zA hH38 Z Z (zF T.yU Z (cw (n := 4) Z Z)) (zA hH38 Z Z (xB Z Z om) (zU (n := 4) (j := 0) Z Z hH38 Z T.sz3 Z Z Z (by rfl) (fun w40 hH41 => (zD (yB ?_)))))))
   have hH42 := (hH41.sub (sK (sC sR)))
   exact ⟨_, ⟨_, ⟨Z, trivial⟩, Z⟩, (Heap.xA (n := 3) hH42 Z (by first | exact congrArg (fun z => [Value.int .i64 z]) (by rw [Sf.mis_t hlt hnh]; omega) | exact congrArg (fun z => [Value.int .i64 z]) (by rw [Sf.mis_f hlt hht])))⟩
  have hht : Sf.hit ts (nth (Sf.lst m l.length) (i22 : Int)) = true := by have hq := (Bool.eq_false_iff.2 hc39); simpa using hq
  refine zM Z (Bool.eq_false_iff.2 hc39) (skip (yB ?_))
  have hH43 := (hH38.sub (sK (sC sR)))
  exact ⟨_, ⟨_, ⟨Z, trivial⟩, Z⟩, (Heap.xA (n := 3) hH43 Z (by first | exact congrArg (fun z => [Value.int .i64 z]) (by rw [Sf.mis_t hlt hnh]; omega) | exact congrArg (fun z => [Value.int .i64 z]) (by rw [Sf.mis_f hlt hht])))⟩
 ·obtain ⟨rfl, _⟩ := hI
  have hH44 := hH26.perm (List.perm_append_comm (l₁ := [_]))
  refine yB (zu (zA hH44 Z Z (zF T.yU Z (cw (n := 1) Z Z)) (oA hH44 Z (zt (ret ?_)))))
  have hH45 := (hH44.sub (sC (sC (sC sR))))
  refine kS (H := []) [D21] hH45 (fun w' hf => (yN Z (rt Z))) (fun w' hf => ?_)
  rw [List.length_map, List.take_length]; rfl
 exact hI.elim
end Go.Fip
namespace Go.Fip
namespace Sf
def gap (l : List Int) (j i : Int) : Prop := nth l j = nth l i ∧ ¬ btw l j i
instance (l : List Int) (j i : Int) : Decidable (gap l j i) := by unfold gap; infer_instance
def gaps (l : List Int) (i : Nat) : Nat → List (Int × Int)
 | 0 => []
 | j + 1 => gaps l i j ++ if gap l (j : Int) (i : Int) then [((j : Int), (i : Int))] else []
def gl (l : List Int) : Nat → List (Int × Int)
 | 0 => []
 | i + 1 => gl l i ++ gaps l i i
theorem Full.pos {l : List Int} {m : Mm} {room : Int} (h : Full l m) (hd : Day room l) {i j : Nat} (hj : j < i) (hi : i < l.length) : 0 < (find ((j : Int), (i : Int)) m).getD 0 ↔ gap l (j : Int) (i : Int) := by
 constructor
 ·intro h0
  cases hf : find ((j : Int), (i : Int)) m with
  | none => rw [hf] at h0; simp at h0
  | some v =>
   obtain ⟨a, b, e, h1, h2, h3, h4, h5⟩ := h.only _ v hf
   simp only [Prod.mk.injEq] at e
   rw [e.1, e.2]
   exact ⟨h3, h5⟩
 ·rintro ⟨h1, h2⟩
  have := hd.at (i := i) hi
  rw [h.has j i hj hi h1 h2]
  simp only [Option.getD_some]; omega
theorem Full.ends {l : List Int} {m : Mm} {room : Int} (h : Full l m) (hd : Day room l) {i : Nat} (hi : i < l.length) : ∀ j, j ≤ i → Sf.ends m i j = gaps l i j
 | 0, _ => rfl
 | j + 1, hj => by
  have ih := Full.ends h hd hi j (by omega)
  have hp := h.pos hd (show j < i by omega) hi
  show _ ++ (if _ then _ else _) = _ ++ (if _ then _ else _)
  rw [ih]
  by_cases hg : gap l (j : Int) (i : Int)
  ·rw [if_pos hg, if_pos (hp.2 hg)]
  ·rw [if_neg hg, if_neg (fun h0 => hg (hp.1 h0))]
theorem Full.lst {l : List Int} {m : Mm} {room : Int} (h : Full l m) (hd : Day room l) : ∀ i, i ≤ l.length → Sf.lst m i = gl l i
 | 0, _ => rfl
 | i + 1, hi => by
  show Sf.lst m i ++ Sf.ends m i i = gl l i ++ gaps l i i
  rw [Full.lst h hd i (by omega), h.ends hd (by omega) i (Nat.le_refl _)]
def pvl (room : Int) (l ts : List Int) : Int := (l.length : Int) - (ts.length : Int) * (room - 1) - (((gl l l.length).filter fun p => !hit ts p).length : Int)
theorem Full.pv {l : List Int} {m : Mm} {room : Int} (h : Full l m) (hd : Day room l) {ts : List Int} : Sf.pv room l m ts = pvl room l ts := by
 unfold Sf.pv missed pvl; rw [h.lst hd l.length (Nat.le_refl _)]
def low (ts : List Int) : Nat → Int
 | 0 => 0
 | k + 1 => nth ts (k : Int) + 1
def inT (n : Nat) (ts : List Int) (k : Nat) : Prop := low ts k ≤ nth ts (k : Int) ∧ nth ts (k : Int) ≤ (n : Int) - 1
instance (n : Nat) (ts : List Int) (k : Nat) : Decidable (inT n ts k) := by unfold inT; infer_instance
def tOk (n : Nat) (ts : List Int) : Prop := ∀ k, k < ts.length → inT n ts k
instance (n : Nat) (ts : List Int) : Decidable (tOk n ts) := by unfold tOk; exact Nat.decidableBallLT _ _
theorem low_le {n : Nat} {ts : List Int} : ∀ {k : Nat}, k ≤ ts.length → (∀ j, j < k → inT n ts j) → (k : Int) ≤ low ts k ∧ (k = 0 ∨ low ts k ≤ (n : Int))
 | 0, _, _ => ⟨by show ((0 : Nat) : Int) ≤ 0; omega, .inl rfl⟩
 | k + 1, h, ha => by
  have ih := low_le (n := n) (k := k) (by omega) (fun j hj => ha j (by omega))
  have := ha k (by omega)
  unfold inT at this
  refine ⟨?_, .inr ?_⟩
  ·show ((k + 1 : Nat) : Int) ≤ nth ts (k : Int) + 1; omega
  ·show nth ts (k : Int) + 1 ≤ (n : Int); omega
theorem tOk_len {n : Nat} {ts : List Int} (h : tOk n ts) : ts.length ≤ n := by
 have := low_le (n := n) (Nat.le_refl ts.length) h
 omega
def ct (room : Int) (l ts : List Int) : Int × Int := if ¬ ck room l = 0 then (0, ck room l) else if ¬ tOk l.length ts then (0, 3) else (pvl room l ts, 0)
theorem ct_1 {room : Int} {l ts : List Int} (h : ¬ ck room l = 0) : ct room l ts = (0, ck room l) := if_pos h
theorem ct_2 {room : Int} {l ts : List Int} (h : ck room l = 0) {k : Nat} (hk : k < ts.length) (h2 : ¬ inT l.length ts k) : ct room l ts = (0, 3) := by unfold ct; rw [if_neg (fun hh => hh h), if_pos (fun ht => h2 (ht k hk))]
theorem ct_3 {room : Int} {l ts : List Int} (h : ck room l = 0) (h2 : tOk l.length ts) : ct room l ts = (pvl room l ts, 0) := by unfold ct; rw [if_neg (fun hh => hh h), if_neg (fun hh => hh h2)]
end Sf
end Go.Fip
namespace Go.Fip
open Go.Proofs Go.RowKit
theorem c55 {v : Value} {l : List Int} {room : Int} {w : World} (h0 : Rd encI 1 v l w) (hn : l.length ≤ 1000000) {vt : Value} {ts : List Int} (ht : Rd encI 1 vt ts w) (htn : ts.length ≤ 1000000)  :
  Fn Tryz.prog 55 [(.agg #[(.int .i64 room), v]), vt].toArray w (fun u _ => u = .tuple #[.int .i64 (Sf.ct room l ts).1, .int .i64 (Sf.ct room l ts).2]) := by
 refine fz Tryz.func55 Z kz Z Z (fun hH => (zr (yW Z Z Z hH (fun b1 w2 hH3 => (oA hH3 Z (oA hH3 Z (zt (seq ?_))))))))
 by_cases hc4 : Sf.ck room l = 0
 ·have hc0 : Sf.ck room l = 0 := ‹_›
  have hday := Sf.ck_iff.1 hc0
  have hd1 := hday.r1
  have hd2 := hday.r2
  have hd3 := hday.n
  refine region (zA hH3 Z Z (zW (cs := [(.int .i64 room), v]) T.xZ Z Z (fun _ hw => Heap.yI hw (n := 0) Z (k := 0) Z)) (y2 Z Z Z hH3 (G5 (h0.now hH3 (n := 1) Z) om hc0) (fun u7 w5 lo8 hi9 hH6 hv10 => ?_)))
  obtain ⟨bbD12, hu, hrowD12⟩ := hv10
  subst hu
  obtain ⟨mbD12, mmD12, hfullD12, hH11⟩ := Heap.X4 hH6 (n := 0) rfl (fun w' h => by obtain ⟨rb', e, h⟩ := h; cases e; exact h)
  refine oM hH11 Z (zA hH11 Z Z (zI Z Z) (zA hH11 Z Z (zI Z Z) (oA hH11 Z (oA hH11 Z (zt (seq (zr (oM hH11 Z (zA hH11 Z Z (yH Z Z) (zt (zM Z Z (skip (zu (oA hH11 Z (zt ?_)))))))))))))))
  refine seq (zr (oM hH11 Z (zA hH11 Z Z (yA T.yV Z (ht.now hH11 (n := 3) Z).is) (oM hH11 Z (zt (block (loop (S := Nat) (fun k => [(21, (.int .i64 (k : Int))), (8, (.int .i64 (Sf.low ts k))), (1, vt), (2, (.pointer (some ⟨b1, 0, none⟩))), (6, (.pointer (some ⟨bbD12, 0, none⟩))), (19, vt), (20, (.int .i64 (ts.length : Int)))]) (fun k w1 => Heap [mp Sf.kvS Sf.vvI mbD12 mmD12, bx bbD12 148 (seg [(.int .i64 room), v] (List.replicate 9 0) [(.map (some mbD12))]), bx b1 51 [(.int .i64 room), v], base w] w1 ∧ k ≤ ts.length ∧ ∀ j, j < k → Sf.inT l.length ts j) (fun k => ts.length - k) (0) (uC Z (uC Z (uC Z (uC Z (uC Z (uC Z (uC Z (Sub.nil _)))))))) ?_ ?_)))))))
  ·exact ⟨hH11, by omega, (fun j h => absurd h (Nat.not_lt_zero _))⟩
  rintro k w13 ⟨hH14, hk, hall⟩
  obtain ⟨hlo1, hlo2⟩ := Sf.low_le hk hall
  refine zr (zA hH14 Z Z (yK Z Z) (zt (seq ?_)))
  by_cases hc15 : (k : Int) < (ts.length : Int)
  ·refine zO Z (dT hc15) (skip (zP (seq (block (zr (zA hH14 Z Z (zS T.yV Z Z (ht.now hH14 (n := 3) Z).is om) (zA hH14 Z Z (zF T.yU Z (fun _ hw => Rd.at (ht.now hw (n := 3) Z) (i := (k : Int)) om (j := 0) Z)) (oA hH14 Z (zt (seq (zr (oM hH14 Z (zA hH14 Z Z (zJ T.vP Z) (zA hH14 Z Z (zF T.xK Z (cw (n := 2) Z Z)) (zA hH14 Z Z (yA T.yV Z (h0.now hH14 (n := 3) Z).is) (zA hH14 Z Z (xB Z Z om) (oM hH14 Z (z8 T.zC [nth ts (k : Int)] Z (fun w => by kernel_rfl) hH14 (fun u16 lo18 hi19 w17 hH20 => ?_)))))))))))))))))))
   refine zN Z Z Z hH20 (WH (Heap.yO T.zC hH20 (n := 0) Z)) (fun w21 hH22 => (zA hH22 Z Z (y7 Z) (zt ?_)))
   by_cases hc23 : (Sf.low ts k) ≤ nth ts (k : Int) ∧ nth ts (k : Int) ≤ (l.length : Int) - 1
   ·have hgd : Sf.inT l.length ts k := by have hq := (zH hc23); unfold Sf.inT; simpa using hq
    have hgd2 : Sf.low ts k ≤ nth ts (k : Int) ∧ nth ts (k : Int) ≤ (l.length : Int) - 1 := hgd
    refine zM Z (zH hc23) (skip (zP (region (oM hH22 Z (zA hH22 Z Z (zX Z Z om) (oA hH22 Z (zD (yB (zP (region (zA hH22 Z Z (zX Z Z om) (oM hH22 Z (zD ?_)))))))))))))
    have hH24 := (hH22.sub (sC sR))
    refine yY (k + 1) (uC Z (uC Z (uC Z (uC Z (uC Z (uC Z (uC Z (Sub.nil _)))))))) ?_ ?_
    ·exact ⟨hH24, by omega, (fun j hj => by rcases Nat.lt_or_ge j k with h | h; exact hall j h; rw [show j = k by omega]; exact hgd)⟩
    ·first | (dsimp only; omega) | (show _ < _; omega)
   have hbt : ¬ Sf.inT l.length ts k := by have hq := (zG hc23); unfold Sf.inT; simp at hq; omega
   refine zO Z (zG hc23) (zr (oA hH22 Z (oA hH22 Z (zt (ret (z2 (yD (z2 (xT (yD (z2 ?_)))))))))))
   have hH25 := (hH22.sub (sC (sC (sC (sC sR)))))
   refine fin hH25 (fun w' hf => (xI Z (rt Z) (rt Z))) (fun w' hf => ?_)
   first | (rw [Sf.ct_1 hcn] <;> rfl) | (rw [Sf.ct_2 hc0 (k := k) (by omega) hbt] <;> rfl) | (rw [Sf.ct_3 hc0 htk, hfullD12.pv hday] <;> rfl)
  refine zM Z (dF hc15) (exit (yX (xF (z7 (zP (seq ?_))))))
  have htk : Sf.tOk l.length ts := fun j hj => hall j (by omega)
  have htl := Sf.tOk_len htk
  refine region (oM hH14 Z (oM hH14 Z (zN Z Z Z hH14 (zD7 (Heap.xS hH14 (n := 1) Z) (by first | omega | assumption | (simp only [List.length_set, List.length_replicate]; done) | (simp only [List.length_set]; omega)) (h0.now hH14 (n := 3) Z) om (Heap.kJ hH14 (n := 0) Z) (ht.now hH14 (n := 3) Z) om ⟨by omega, by omega⟩) (fun w26 hH27 => (oA hH27 Z (oA hH27 Z (zt (ret ?_))))))))
  have hH28 := (hH27.sub (sC (sC (sC sR))))
  refine fin hH28 (fun w' hf => (xI Z (rt Z) (rt Z))) (fun w' hf => ?_)
  first | (rw [Sf.ct_1 hcn] <;> rfl) | (rw [Sf.ct_2 hc0 (k := k) (by omega) hbt] <;> rfl) | (rw [Sf.ct_3 hc0 htk, hfullD12.pv hday] <;> rfl)
 have hcn : ¬ Sf.ck room l = 0 := ‹_›
 refine region (zA hH3 Z Z (zW (cs := [(.int .i64 room), v]) T.xZ Z Z (fun _ hw => Heap.yI hw (n := 0) Z (k := 0) Z)) (zN Z Z Z hH3 (zA4 (h0.now hH3 (n := 1) Z) om hcn) (fun w29 hH30 => (oM hH30 Z (zA hH30 Z Z (zI Z Z) (zA hH30 Z Z (zI Z Z) (oA hH30 Z (oA hH30 Z (zt (seq (zr (oM hH30 Z (zA hH30 Z Z (yH Z Z) (zt ?_))))))))))))))
 have hc31 : ¬ ((Sf.ck room l) = 0) := hcn
 refine zO Z (zG hc31) (zr (oM hH30 Z (oA hH30 Z (oA hH30 Z (zt (ret (z2 ?_)))))))
 have hH32 := (hH30.sub (sC sR))
 refine fin hH32 (fun w' hf => (xI Z (rt Z) (rt Z))) (fun w' hf => ?_)
 first | (rw [Sf.ct_1 hcn] <;> rfl) | (rw [Sf.ct_2 hc0 (k := k) (by omega) hbt] <;> rfl) | (rw [Sf.ct_3 hc0 htk, hfullD12.pv hday] <;> rfl)
end Go.Fip
namespace Go.Fip
open Go.Proofs Go.RowKit
theorem c60 {v u : Value} {a b : List Int} {w : World} (h0 : Rd encI 1 v a w) (h1 : Rd encI 1 u b w) (hn : a.length ≤ 1000000) (hm : b.length ≤ 1000000)  :
  Fn Tryz.prog 60 [v, u].toArray w (fun u _ => u = .bool (decide (a = b))) := by
 refine fz Tryz.func60 Z kz Z Z (fun hH => (zr (oA hH Z (zt (seq (zr (oM hH Z (zA hH Z Z (yA T.yV Z (h0.now hH (n := 0) Z).is) (oM hH Z (zA hH Z Z (yA T.yV Z (h1.now hH (n := 0) Z).is) (zA hH Z Z (yH Z Z) (zt ?_))))))))))))
 by_cases hc1 : (a.length : Int) = (b.length : Int)
 ·have hl : a.length = b.length := by omega
  refine zM Z (zH hc1) (skip (zP (seq (zr (oA hH Z (zt (block (loop (S := Nat) (fun k => [(5, (.int .i64 (k : Int))), (0, v), (1, u)]) (fun k w1 => Heap [base w] w1 ∧ k ≤ a.length ∧ ∀ i : Nat, i < k → nth a (i : Int) = nth b (i : Int)) (fun k => a.length - k) (0) (uC Z (uC Z (uC Z (Sub.nil _)))) ?_ ?_))))))))
  ·exact ⟨hH, by omega, (fun i h => absurd h (Nat.not_lt_zero _))⟩
  rintro k w2 ⟨hH3, hk, hall⟩
  refine seq (zr (oM hH3 Z (oM hH3 Z (zA hH3 Z Z (yA T.yV Z (h0.now hH3 (n := 0) Z).is) (zA hH3 Z Z (yK Z Z) (zt ?_))))))
  by_cases hc4 : (k : Int) < (a.length : Int)
  ·refine zO Z (dT hc4) (skip (zP (seq (block (seq (zZ (fun w' => Heap [base w] w') T.mixed (fun w5 hr6 => ?_)))))))
   have hH7 := hH3.redrawn hr6
   refine zK [0, 1, 2, 3, 4, 5, 6, 7, 8] kz hH7 _ _ _ kz (qM Z Z Z (qM Z Z Z (zL Z Z (zS T.yV Z Z (h0.now hH7 (n := 0) Z).is om) (zL Z Z (zF T.yU Z (fun _ hw => Rd.at (h0.now hw (n := 0) Z) (i := (k : Int)) om (j := 0) Z)) (qM Z Z Z (qM Z Z Z (zL Z Z (zS T.yV Z Z (h1.now hH7 (n := 0) Z).is om) (zL Z Z (zF T.yU Z (fun _ hw => Rd.at (h1.now hw (n := 0) Z) (i := (k : Int)) om (j := 0) Z)) (zL Z Z (yH Z Z) (zV (zY kz (zP ?_))))))))))))
   by_cases hc8 : (nth a (k : Int)) = (nth b (k : Int))
   ·have heq : nth a (k : Int) = nth b (k : Int) := by have hq := (zH hc8); simpa using hq
    refine zM Z (zH hc8) (skip (yB (zP (region (oM hH7 Z (zA hH7 Z Z (zX Z Z om) (oA hH7 Z (zD (yY (k + 1) (uC Z (uC Z (uC Z (Sub.nil _)))) ?_ ?_)))))))))
    ·exact ⟨hH7, by omega, (fun i hi => by rcases Nat.lt_or_ge i k with h | h; exact hall i h; rw [show i = k by omega]; exact heq)⟩
    ·first | (dsimp only; omega) | (show _ < _; omega)
   have hne : ¬ a = b := fun h => by have hq := (zG hc8); rw [h] at hq; simp at hq
   refine zO Z (zG hc8) (zr (oA hH7 Z (zt (ret (yD (z2 (xT (yD (z2 (fin hH7 (fun w' hf => (yN Z (rt Z))) (fun w' hf => ?_)))))))))))
   first | (rw [decide_eq_false hne]; done) | (rw [decide_eq_true (List.ext_getElem hl (fun i h1 h2 => by have h3 := hall i (by omega); rwa [yJ h1, yJ h2] at h3))]; done)
  refine zM Z (dF hc4) (exit (yX (xF (z7 (zu (oA hH3 Z (zt (ret (fin hH3 (fun w' hf => (yN Z (rt Z))) (fun w' hf => ?_))))))))))
  first | (rw [decide_eq_false hne]; done) | (rw [decide_eq_true (List.ext_getElem hl (fun i h1 h2 => by have h3 := hall i (by omega); rwa [yJ h1, yJ h2] at h3))]; done)
 have hne : ¬ a = b := fun h => absurd (congrArg List.length h) (by omega)
 refine zO Z (zG hc1) (zr (oA hH Z (zt (ret (z2 (fin hH (fun w' hf => (yN Z (rt Z))) (fun w' hf => ?_)))))))
 first | (rw [decide_eq_false hne]; done) | (rw [decide_eq_true (List.ext_getElem hl (fun i h1 h2 => by have h3 := hall i (by omega); rwa [yJ h1, yJ h2] at h3))]; done)
theorem zCb {v : Value} {l : List Int} {room : Int} {w : World} (h0 : Rd encI 1 v l w) (hn : l.length ≤ 1000000)  :
  Fn Tryz.prog 125 [(.agg #[(.int .i64 room), v])].toArray w (fun u _ => u = .int .i64 (Sf.ck room l)) := by
 refine fz Tryz.func125 Z kz Z Z (fun hH => (zr (yW Z Z Z hH (fun b1 w2 hH3 => (oA hH3 Z (zt (seq (zr (zA hH3 Z Z (zJ T.Y2 Z) (zA hH3 Z Z (zF T.yU Z (cw (n := 0) Z Z)) (zA hH3 Z Z (yK Z Z) (oM hH3 Z ?_))))))))))))
 by_cases hc4 : room < 1
 ·have hr : ¬ (1 ≤ room ∧ room ≤ 6) := by have hq := (decide_eq_true hc4); simp at hq; omega
  refine zE Z Z (dT hc4) Z (zE Z Z (dT hc4) Z (zE Z Z (dT hc4) Z (zA hH3 Z Z (zR Z (dT hc4) Z) (zt (zO Z Z (zr (oA hH3 Z (zt (ret (z2 ?_))))))))))
  have hH5 := (hH3.sub (sC sR))
  refine fin hH5 (fun w' hf => (yN Z (rt Z))) (fun w' hf => ?_)
  first | exact congrArg (Value.int .i64) (Sf.ck1 hr) | exact congrArg (Value.int .i64) (Sf.ck2 hr hm) | exact congrArg (Value.int .i64) (Sf.ck3 hr hm hw) | exact congrArg (Value.int .i64) (Sf.ck4 hr hm hw)
 refine zB Z Z (dF hc4) (zA hH3 Z Z (zJ T.Y2 Z) (zB Z Z (dF hc4) (zA hH3 Z Z (zF T.yU Z (cw (n := 0) Z Z)) (zB Z Z (dF hc4) (zA hH3 Z Z (xJ Z Z) (zA hH3 Z Z (zT Z (dF hc4) Z) (zt ?_)))))))
 by_cases hc6 : 6 < room
 ·have hr : ¬ (1 ≤ room ∧ room ≤ 6) := by have hq := (decide_eq_true hc6); simp at hq; omega
  refine zO Z (dT hc6) (zr (oA hH3 Z (zt (ret (z2 ?_)))))
  have hH7 := (hH3.sub (sC sR))
  refine fin hH7 (fun w' hf => (yN Z (rt Z))) (fun w' hf => ?_)
  first | exact congrArg (Value.int .i64) (Sf.ck1 hr) | exact congrArg (Value.int .i64) (Sf.ck2 hr hm) | exact congrArg (Value.int .i64) (Sf.ck3 hr hm hw) | exact congrArg (Value.int .i64) (Sf.ck4 hr hm hw)
 have hr : 1 ≤ room ∧ room ≤ 6 := by have hq := (decide_eq_false hc6); simp at hq; omega
 refine zM Z (dF hc6) (skip (zP (seq (zr (zA hH3 Z Z (zJ T.vP Z) (zA hH3 Z Z (zF T.xK Z (cw (n := 0) Z Z)) (zA hH3 Z Z (yA T.yV Z (h0.now hH3 (n := 1) Z).is) (zA hH3 Z Z (xJ Z Z) (zt ?_)))))))))
 by_cases hc8 : 16 < (l.length : Int)
 ·have hm : 16 < l.length := by omega
  refine zO Z (dT hc8) (zr (oA hH3 Z (zt (ret (z2 ?_)))))
  have hH9 := (hH3.sub (sC sR))
  refine fin hH9 (fun w' hf => (yN Z (rt Z))) (fun w' hf => ?_)
  first | exact congrArg (Value.int .i64) (Sf.ck1 hr) | exact congrArg (Value.int .i64) (Sf.ck2 hr hm) | exact congrArg (Value.int .i64) (Sf.ck3 hr hm hw) | exact congrArg (Value.int .i64) (Sf.ck4 hr hm hw)
 have hm : ¬ 16 < l.length := by omega
 refine zM Z (dF hc8) (skip (zP (seq (zr (oA hH3 Z (zt (block (loop (S := Nat) (fun k => [(3, (.int .i64 (k : Int))), (1, (.pointer (some ⟨b1, 0, none⟩)))]) (fun k w1 => Heap [bx b1 51 [(.int .i64 room), v], base w] w1 ∧ k ≤ l.length ∧ ∀ i : Nat, i < k → 1 ≤ nth l (i : Int) ∧ nth l (i : Int) ≤ 8) (fun k => l.length - k) (0) (uC Z (uC Z (Sub.nil _))) ?_ ?_))))))))
 ·exact ⟨hH3, by omega, (fun i h => absurd h (Nat.not_lt_zero _))⟩
 rintro k w10 ⟨hH11, hk, hall⟩
 refine seq (zr (oM hH11 Z (zA hH11 Z Z (zJ T.vP Z) (zA hH11 Z Z (zF T.xK Z (cw (n := 0) Z Z)) (zA hH11 Z Z (yA T.yV Z (h0.now hH11 (n := 1) Z).is) (zA hH11 Z Z (yK Z Z) (zt ?_)))))))
 by_cases hc12 : (k : Int) < (l.length : Int)
 ·refine zO Z (dT hc12) (skip (zP (seq (block (zr (zA hH11 Z Z (zJ T.vP Z) (zA hH11 Z Z (zF T.xK Z (cw (n := 0) Z Z)) (oM hH11 Z (zA hH11 Z Z (zS T.yV Z Z (h0.now hH11 (n := 1) Z).is om) (zA hH11 Z Z (zF T.yU Z (fun _ hw => Rd.at (h0.now hw (n := 1) Z) (i := (k : Int)) om (j := 0) Z)) (zA hH11 Z Z (yK Z Z) (oM hH11 Z ?_))))))))))))
  by_cases hc13 : (nth l (k : Int)) < 1
  ·have hw : ¬ ∀ x ∈ l, 1 ≤ x ∧ x ≤ 8 := fun h => by have h3 := h (nth l (k : Int)) (by rw [yJ (by omega)]; exact List.getElem_mem (by omega)); omega
   refine zE Z Z (dT hc13) Z (zE Z Z (dT hc13) Z (zE Z Z (dT hc13) Z (zE Z Z (dT hc13) Z (zE Z Z (dT hc13) Z (zE Z Z (dT hc13) Z (zA hH11 Z Z (zR Z (dT hc13) Z) (zt (zO Z Z (zr (oA hH11 Z (zt (ret (yD (z2 (xT (yD (z2 ?_)))))))))))))))))
   have hH14 := (hH11.sub (sC sR))
   refine fin hH14 (fun w' hf => (yN Z (rt Z))) (fun w' hf => ?_)
   first | exact congrArg (Value.int .i64) (Sf.ck1 hr) | exact congrArg (Value.int .i64) (Sf.ck2 hr hm) | exact congrArg (Value.int .i64) (Sf.ck3 hr hm hw) | exact congrArg (Value.int .i64) (Sf.ck4 hr hm hw)
  refine zB Z Z (dF hc13) (zA hH11 Z Z (zJ T.vP Z) (zB Z Z (dF hc13) (zA hH11 Z Z (zF T.xK Z (cw (n := 0) Z Z)) (zB Z Z (dF hc13) (oM hH11 Z (zB Z Z (dF hc13) (zA hH11 Z Z (zS T.yV Z Z (h0.now hH11 (n := 1) Z).is om) (zB Z Z (dF hc13) (zA hH11 Z Z (zF T.yU Z (fun _ hw => Rd.at (h0.now hw (n := 1) Z) (i := (k : Int)) om (j := 0) Z)) (zB Z Z (dF hc13) (zA hH11 Z Z (xJ Z Z) (zA hH11 Z Z (zT Z (dF hc13) Z) (zt ?_)))))))))))))
  by_cases hc15 : 8 < (nth l (k : Int))
  ·have hw : ¬ ∀ x ∈ l, 1 ≤ x ∧ x ≤ 8 := fun h => by have h3 := h (nth l (k : Int)) (by rw [yJ (by omega)]; exact List.getElem_mem (by omega)); omega
   refine zO Z (dT hc15) (zr (oA hH11 Z (zt (ret (yD (z2 (xT (yD (z2 ?_)))))))))
   have hH16 := (hH11.sub (sC sR))
   refine fin hH16 (fun w' hf => (yN Z (rt Z))) (fun w' hf => ?_)
   first | exact congrArg (Value.int .i64) (Sf.ck1 hr) | exact congrArg (Value.int .i64) (Sf.ck2 hr hm) | exact congrArg (Value.int .i64) (Sf.ck3 hr hm hw) | exact congrArg (Value.int .i64) (Sf.ck4 hr hm hw)
  have hgd : 1 ≤ nth l (k : Int) ∧ nth l (k : Int) ≤ 8 := by omega
  refine zM Z (dF hc15) (skip (yB (zP (region (oM hH11 Z (zA hH11 Z Z (zX Z Z om) (oA hH11 Z (zD (yY (k + 1) (uC Z (uC Z (Sub.nil _))) ?_ ?_)))))))))
  ·exact ⟨hH11, by omega, (fun i hi => by rcases Nat.lt_or_ge i k with h | h; exact hall i h; rw [show i = k by omega]; exact hgd)⟩
  ·first | (dsimp only; omega) | (show _ < _; omega)
 have hw : ∀ x ∈ l, 1 ≤ x ∧ x ≤ 8 := fun x hx => by obtain ⟨i, hi, rfl⟩ := List.getElem_of_mem hx; have h3 := hall i (by omega); rwa [yJ hi] at h3
 refine zM Z (dF hc12) (exit (yX (xF (z7 (zu (oA hH11 Z (zt (ret ?_))))))))
 have hH17 := (hH11.sub (sC sR))
 refine fin hH17 (fun w' hf => (yN Z (rt Z))) (fun w' hf => ?_)
 first | exact congrArg (Value.int .i64) (Sf.ck1 hr) | exact congrArg (Value.int .i64) (Sf.ck2 hr hm) | exact congrArg (Value.int .i64) (Sf.ck3 hr hm hw) | exact congrArg (Value.int .i64) (Sf.ck4 hr hm hw)
end Go.Fip
namespace Go.Fip
namespace Sf
theorem JL {l : List Int} {k j : Nat} (h1 : k < j) (h2 : j < l.length) (ha : ∀ t : Nat, k < t → t < j → ¬ nth l (t : Int) = nth l (k : Int)) (he : nth l (j : Int) = nth l (k : Int)) : next l (nth l (k : Int)) (k : Int) = (j : Int) := by
 have e : ((k : Int) + 1).toNat = k + 1 := by omega
 have hd : ∀ i : Nat, nth (l.drop (k + 1)) (i : Int) = nth l ((k + 1 + i : Nat) : Int) := fun i => by
  exact uG l (k + 1) i
 have hp : S.place (l.drop (k + 1)) (nth l (k : Int)) = ((j - k - 1 : Nat) : Int) := by
  unfold S.place
  refine (x2 (k := j - k - 1) (by rw [List.length_drop]; omega) (fun i hi => ?_) ?_)
  ·rw [hd]; exact decide_eq_false (ha _ (by omega) (by omega))
  ·rw [hd, show k + 1 + (j - k - 1) = j by omega]; exact decide_eq_true he
 unfold next
 rw [e, hp, if_pos (by omega)]; omega
theorem JJ {l : List Int} {k : Nat} (ha : ∀ t : Nat, k < t → t < l.length → ¬ nth l (t : Int) = nth l (k : Int)) : next l (nth l (k : Int)) (k : Int) = (l.length : Int) := by
 have e : ((k : Int) + 1).toNat = k + 1 := by omega
 have hd : ∀ i : Nat, nth (l.drop (k + 1)) (i : Int) = nth l ((k + 1 + i : Nat) : Int) := fun i => by
  exact uG l (k + 1) i
 have hp : S.place (l.drop (k + 1)) (nth l (k : Int)) = -1 := by
  unfold S.place
  refine xQ (fun i hi => ?_)
  rw [List.length_drop] at hi
  rw [hd]; exact decide_eq_false (ha _ (by omega) (by omega))
 unfold next
 rw [e, hp, if_neg (by omega)]
def rp (l : List Int) : Nat → List (Int × Int)
 | 0 => []
 | k + 1 => rp l k ++ if next l (nth l (k : Int)) (k : Int) < (l.length : Int) then [((k : Int), next l (nth l (k : Int)) (k : Int))] else []
theorem rp_hit {l : List Int} {k j : Nat} (h1 : k < j) (h2 : j < l.length) (ha : ∀ t : Nat, k < t → t < j → ¬ nth l (t : Int) = nth l (k : Int)) (he : nth l (j : Int) = nth l (k : Int)) : rp l k ++ [((k : Int), (j : Int))] = rp l (k + 1) := by
 show _ = rp l k ++ (if _ then _ else _)
 rw [JL h1 h2 ha he, if_pos (by omega)]
theorem rp_miss {l : List Int} {k : Nat} (ha : ∀ t : Nat, k < t → t < l.length → ¬ nth l (t : Int) = nth l (k : Int)) : rp l k = rp l (k + 1) := by
 show _ = rp l k ++ (if _ then _ else _)
 rw [JJ ha, if_neg (by omega), List.append_nil]
theorem rp_len {l : List Int} : ∀ k, (rp l k).length ≤ k
 | 0 => Nat.le_refl _
 | k + 1 => by
  have := rp_len (l := l) k
  show (rp l k ++ (if _ then _ else _)).length ≤ _
  split
  ·rw [List.length_append]; simp only [List.length_cons, List.length_nil]; omega
  ·rw [List.append_nil]; omega
end Sf
end Go.Fip
namespace Go.Fip
open Go.Proofs Go.RowKit
theorem T.el179_encP : El Tryz.prog 179 181 2 encP := XJ (z := (.agg #[(.int .i64 0), (.int .i64 0)])) (bytes := 16) (by kernel_rfl) (by kernel_rfl) rfl rfl rfl (fun _ => rfl) (by simp [encP, Value.oneCell'])
theorem zD4 {v : Value} {l : List Int} {room : Int} {w : World} (h0 : Rd encI 1 v l w) (hn : l.length ≤ 16)  :
  Fn Tryz.prog 126 [(.agg #[(.int .i64 room), v])].toArray w (fun u w => Own 181 2 encP u (Sf.rp l l.length) w) := by
 refine fz Tryz.func126 Z kz Z Z (fun hH => (zr (yW Z Z Z hH (fun b1 w2 hH3 => (oA hH3 Z (zs (oA hH3 Z (zt (seq (zr (oA hH3 Z (zt (block ?_)))))))))))))
 have hH4 := uE (enc := encP) 181 2 hH3
 refine loop (S := Nat × Value × Nat × Nat) (fun (k, v_3, lo_3, hi_3) => [(4, (.int .i64 (k : Int))), (3, v_3), (1, (.pointer (some ⟨b1, 0, none⟩))), (2, (.slice none 0 0))]) (fun (k, v_3, lo_3, hi_3) w1 => Heap [ow lo_3 hi_3 181 2 encP v_3 (Sf.rp l k), bx b1 51 [(.int .i64 room), v], base w] w1 ∧ k ≤ l.length) (fun (k, v_3, lo_3, hi_3) => l.length - k) (0, (.slice none 0 0), w2.heap.size, w2.heap.size) (uC Z (uC Z (uC Z (uC Z (Sub.nil _))))) ?_ ?_
 ·exact ⟨(Heap.y5 (n := 0) hH4 Z (Z)), by omega⟩
 rintro ⟨k, v_3, lo_3, hi_3⟩ w5 ⟨hH6, hk⟩
 have hrl := Sf.rp_len (l := l) k
 refine seq (zr (oM hH6 Z (zA hH6 Z Z (zJ T.vP Z) (zA hH6 Z Z (zF T.xK Z (cw (n := 1) Z Z)) (zA hH6 Z Z (yA T.yV Z (h0.now hH6 (n := 2) Z).is) (zA hH6 Z Z (yK Z Z) (zt ?_)))))))
 by_cases hc7 : (k : Int) < (l.length : Int)
 ·refine zO Z (dT hc7) (skip (zP (seq (block (zr (oM hH6 Z (zA hH6 Z Z (zX Z Z om) (oA hH6 Z (zt (block (loop (S := Nat × Value × Nat × Nat) (fun (j, v_3, lo_3, hi_3) => [(5, (.int .i64 (j : Int))), (3, v_3), (1, (.pointer (some ⟨b1, 0, none⟩))), (2, (.slice none 0 0)), (4, (.int .i64 (k : Int)))]) (fun (j, v_3, lo_3, hi_3) w1 => Heap [ow lo_3 hi_3 181 2 encP v_3 (Sf.rp l k), bx b1 51 [(.int .i64 room), v], base w] w1 ∧ k < j ∧ j ≤ l.length ∧ ∀ t : Nat, k < t → t < j → ¬ nth l (t : Int) = nth l (k : Int)) (fun (j, v_3, lo_3, hi_3) => l.length - j) ((k + 1), v_3, lo_3, hi_3) (uC Z (uC Z (uC Z (uC Z (uC Z (Sub.nil _)))))) ?_ ?_)))))))))))
  ·exact ⟨(Heap.y5 (n := 0) hH6 Z (Z)), by omega, by omega, (fun t h1 h2 => by omega)⟩
  rintro ⟨j, v_3, lo_3, hi_3⟩ w8 ⟨hH9, hkj, hj, hall⟩
  refine seq (zr (oM hH9 Z (zA hH9 Z Z (zJ T.vP Z) (zA hH9 Z Z (zF T.xK Z (cw (n := 1) Z Z)) (zA hH9 Z Z (yA T.yV Z (h0.now hH9 (n := 2) Z).is) (zA hH9 Z Z (yK Z Z) (zt ?_)))))))
  by_cases hc10 : (j : Int) < (l.length : Int)
  ·refine zO Z (dT hc10) (skip (zP (seq (block (seq (zZ (fun w' => Heap [ow lo_3 hi_3 181 2 encP v_3 (Sf.rp l k), bx b1 51 [(.int .i64 room), v], base w] w') T.mixed (fun w11 hr12 => ?_)))))))
   have hH13 := hH9.redrawn hr12
   refine zK [0, 1, 2, 3, 4, 5, 6, 7, 8, 9, 10] kz hH13 _ _ _ kz (zL Z Z (zJ T.vP Z) (zL Z Z (zF T.xK Z (cw (n := 1) Z Z)) (qM Z Z Z (zL Z Z (zS T.yV Z Z (h0.now hH13 (n := 2) Z).is om) (zL Z Z (zF T.yU Z (fun _ hw => Rd.at (h0.now hw (n := 2) Z) (i := (j : Int)) om (j := 0) Z)) (zL Z Z (zJ T.vP Z) (zL Z Z (zF T.xK Z (cw (n := 1) Z Z)) (qM Z Z Z (zL Z Z (zS T.yV Z Z (h0.now hH13 (n := 2) Z).is om) (zL Z Z (zF T.yU Z (fun _ hw => Rd.at (h0.now hw (n := 2) Z) (i := (k : Int)) om (j := 0) Z)) (zL Z Z (y6 Z Z) (zV (zY kz (zP ?_))))))))))))))
   by_cases hc14 : (nth l (j : Int)) = (nth l (k : Int))
   ·have he : nth l (j : Int) = nth l (k : Int) := by have hq := (decide_eq_true hc14); simpa using hq
    refine zO Z (dT hc14) (zr (oM hH13 Z (oM hH13 Z (oM hH13 Z (zA hH13 Z Z (yS (v := (.agg #[(.int .i64 (k : Int)), (.int .i64 (j : Int))])) Z (fun w => by kernel_rfl)) (z8 T.el179_encP [((k : Int), (j : Int))] Z (fun w => by kernel_rfl) hH13 (fun u15 lo17 hi18 w16 hH19 => (yF (n := 1) T.el179_encP Z Z Z hH19 Z (Heap.yO T.el179_encP hH19 (n := 0) Z) om2 (fun u20 lo22 hi23 w21 hH24 => (oA hH24 Z (zt (exit (YH Z (yX (xF (z7 (yB (zP (region (oM hH24 Z (zA hH24 Z Z (zX Z Z om) ?_)))))))))))))))))))))
    refine oA hH24 Z (zD ?_)
    have hH25 := (hH24.sub (sC sR))
    refine yY (k + 1, u20, lo22, hi23) (uC Z (uC Z (uC Z (uC Z (Sub.nil _))))) ?_ ?_
    ·exact ⟨(Heap.y5 (n := 0) hH25 Z (by first | (rw [Sf.rp_hit om om hall he]; done) | (rw [Sf.rp_miss (fun t h1 h2 => hall t h1 om)]; done))), by omega⟩
    ·first | (dsimp only; omega) | (show _ < _; omega)
   have hne : ¬ nth l (j : Int) = nth l (k : Int) := by have hq := (decide_eq_false hc14); simpa using hq
   refine zM Z (dF hc14) (skip (yB (zP (region (oM hH13 Z (zA hH13 Z Z (zX Z Z om) (oA hH13 Z (zD (yY (j + 1, v_3, lo_3, hi_3) (uC Z (uC Z (uC Z (uC Z (uC Z (Sub.nil _)))))) ?_ ?_)))))))))
   ·exact ⟨(Heap.y5 (n := 0) hH13 Z (Z)), by omega, by omega, (fun t h1 h2 => by rcases Nat.lt_or_ge t j with h | h; exact hall t h1 h; rw [show t = j by omega]; exact hne)⟩
   ·first | (dsimp only; omega) | (show _ < _; omega)
  refine zM Z (dF hc10) (exit (yX (xF (z7 (yB (zP (region (oM hH9 Z (zA hH9 Z Z (zX Z Z om) (oA hH9 Z (zD (yY (k + 1, v_3, lo_3, hi_3) (uC Z (uC Z (uC Z (uC Z (Sub.nil _))))) ?_ ?_))))))))))))
  ·exact ⟨(Heap.y5 (n := 0) hH9 Z (by first | (rw [Sf.rp_hit om om hall he]; done) | (rw [Sf.rp_miss (fun t h1 h2 => hall t h1 om)]; done))), by omega⟩
  ·first | (dsimp only; omega) | (show _ < _; omega)
 refine zM Z (dF hc7) (exit (yX (xF (z7 (zu (oM hH6 Z (oA hH6 Z (zt (ret ?_)))))))))
 have hH26 := (hH6.sub (sK (sC sR)))
 refine fin (hH26.front (n := 1) Z) (fun w' hf => (yN Z (rt Z))) (fun w' hf => ?_)
 have hke : k = l.length := by omega
 rw [← hke]; exact Heap.own hf (n := 0) rfl
end Go.Fip
namespace Go.Fip
namespace Sf
theorem K1 {ts : List Int} {p : Int × Int} : hit ts p = true ↔ ∃ x ∈ ts, p.1 < x ∧ x < p.2 := by
 unfold hit
 rw [YP]
 constructor
 ·rintro ⟨i, hi, h⟩
  exact ⟨_, by rw [yJ hi]; exact List.getElem_mem hi, of_decide_eq_true h⟩
 ·rintro ⟨x, hx, h⟩
  obtain ⟨i, hi, rfl⟩ := List.getElem_of_mem hx
  exact ⟨i, hi, by rw [yJ hi]; exact decide_eq_true h⟩
theorem hit_succ {ts : List Int} {p : Int × Int} {j : Nat} (h : j < ts.length) : hit (ts.take (j + 1)) p = (hit (ts.take j) p || decide (p.1 < nth ts (j : Int) ∧ nth ts (j : Int) < p.2)) := by
 rw [Bool.eq_iff_iff, Bool.or_eq_true, K1, K1, ← uV h, decide_eq_true_eq]
 simp only [List.mem_append, List.mem_singleton]
 constructor
 ·rintro ⟨x, hx | rfl, h2⟩
  ·exact .inl ⟨x, hx, h2⟩
  ·exact .inr h2
 ·rintro (⟨x, hx, h2⟩ | h2)
  ·exact ⟨x, .inl hx, h2⟩
  ·exact ⟨_, .inr rfl, h2⟩
theorem low_cases {ts : List Int} (k : Nat) : k = 0 ∧ low ts k = 0 ∨ 0 < k ∧ low ts k = nth ts ((k : Int) - 1) + 1 := by
 cases k with
 | zero => exact .inl ⟨rfl, rfl⟩
 | succ k => exact .inr ⟨Nat.succ_pos k, by rw [show ((k + 1 : Nat) : Int) - 1 = (k : Int) by omega]; rfl⟩
def rv (room : Int) (l ts : List Int) : Int := (l.length : Int) - (ts.length : Int) * (room - 1) - (((rp l l.length).filter fun p => !hit ts p).length : Int)
def rt (room : Int) (l ts : List Int) : Int × Int := if ¬ ck room l = 0 then (0, ck room l) else if ¬ tOk l.length ts then (0, 3) else (rv room l ts, 0)
theorem rt_1 {room : Int} {l ts : List Int} (h : ¬ ck room l = 0) : rt room l ts = (0, ck room l) := if_pos h
theorem rt_2 {room : Int} {l ts : List Int} (h : ck room l = 0) {k : Nat} (hk : k < ts.length) (h2 : ¬ inT l.length ts k) : rt room l ts = (0, 3) := by unfold rt; rw [if_neg (fun hh => hh h), if_pos (fun ht => h2 (ht k hk))]
theorem rt_3 {room : Int} {l ts : List Int} (h : ck room l = 0) (h2 : tOk l.length ts) : rt room l ts = (rv room l ts, 0) := by unfold rt; rw [if_neg (fun hh => hh h), if_neg (fun hh => hh h2)]
end Sf
end Go.Fip
namespace Go.Fip
open Go.Proofs Go.RowKit
theorem c59 {v : Value} {l : List Int} {room : Int} {w : World} (h0 : Rd encI 1 v l w) (hn : l.length ≤ 1000000) {vt : Value} {ts : List Int} (ht : Rd encI 1 vt ts w) (htn : ts.length ≤ 1000000)  :
  Fn Tryz.prog 59 [(.agg #[(.int .i64 room), v]), vt].toArray w (fun u _ => u = .tuple #[.int .i64 (Sf.rt room l ts).1, .int .i64 (Sf.rt room l ts).2]) := by
 refine fz Tryz.func59 Z kz Z Z (fun hH => (zr (yW Z Z Z hH (fun b1 w2 hH3 => (oA hH3 Z (oA hH3 Z (zt (seq (zr (zA hH3 Z Z (zW (cs := [(.int .i64 room), v]) T.xZ Z Z (fun _ hw => Heap.yI hw (n := 0) Z (k := 0) Z)) (zN Z Z Z hH3 (zCb (h0.now hH3 (n := 1) Z) om) (fun w4 hH5 => (zA hH5 Z Z (yH Z Z) (zt ?_))))))))))))))
 by_cases hc6 : (Sf.ck room l) = 0
 ·have hc0 : Sf.ck room l = 0 := by have hq := (zH hc6); simpa using hq
  have hday := Sf.ck_iff.1 hc0
  have hd1 := hday.r1
  have hd2 := hday.r2
  have hd3 := hday.n
  refine zM Z (zH hc6) (skip (zP (seq (zr (oA hH5 Z (zt (block (loop (S := Nat) (fun k => [(6, (.int .i64 (k : Int))), (1, vt), (2, (.pointer (some ⟨b1, 0, none⟩)))]) (fun k w1 => Heap [bx b1 51 [(.int .i64 room), v], base w] w1 ∧ k ≤ ts.length ∧ ∀ j, j < k → Sf.inT l.length ts j) (fun k => ts.length - k) (0) (uC Z (uC Z (uC Z (Sub.nil _)))) ?_ ?_))))))))
  ·exact ⟨hH5, by omega, (fun j h => absurd h (Nat.not_lt_zero _))⟩
  rintro k w7 ⟨hH8, hk, hall⟩
  obtain ⟨hlo1, hlo2⟩ := Sf.low_le hk hall
  have hlc := Sf.low_cases (ts := ts) k
  refine seq (zr (oM hH8 Z (oM hH8 Z (zA hH8 Z Z (yA T.yV Z (ht.now hH8 (n := 1) Z).is) (zA hH8 Z Z (yK Z Z) (zt ?_))))))
  by_cases hc9 : (k : Int) < (ts.length : Int)
  ·refine zO Z (dT hc9) (skip (zP (seq (block (seq (zZ (fun w' => Heap [bx b1 51 [(.int .i64 room), v], base w] w') T.mixed (fun w10 hr11 => ?_)))))))
   have hH12 := hH8.redrawn hr11
   refine zK [0, 1, 2, 3, 4, 5] kz hH12 _ _ _ kz (qM Z Z Z (qM Z Z Z (zL Z Z (zS T.yV Z Z (ht.now hH12 (n := 1) Z).is om) (zL Z Z (zF T.yU Z (fun _ hw => Rd.at (ht.now hw (n := 1) Z) (i := (k : Int)) om (j := 0) Z)) (zL Z Z (yK Z Z) (qM Z Z Z (zV ?_)))))))
   by_cases hc13 : (nth ts (k : Int)) < 0
   ·refine zK [6, 7, 8, 9, 10, 11, 12, 13, 14, 15, 16, 17, 18, 19, 20, 21, 22, 23, 24, 25, 26, 27, 28, 29, 30] kz hH12 _ _ _ kz (yT Z Z Z (dT hc13) Z (yT Z Z Z (dT hc13) Z (yT Z Z Z (dT hc13) Z (yT Z Z Z (dT hc13) Z (yT Z Z Z (dT hc13) Z (yT Z Z Z (dT hc13) Z (yT Z Z Z (dT hc13) Z (yT Z Z Z (dT hc13) Z (zL Z Z (zR Z (dT hc13) Z) (qM Z Z Z (yT Z Z Z Z Z (yT Z Z Z Z Z (yT Z Z Z Z Z (xD Z Z Z Z (xD Z Z Z Z (xD Z Z Z Z (xD Z Z Z Z (xD Z Z Z Z (xD Z Z Z Z (xD Z Z Z Z (xD Z Z Z Z ?_)))))))))))))))))))))
    refine xD Z Z Z Z (xD Z Z Z Z (yT Z Z Z Z Z (zL Z Z (zR Z Z Z) (zV (zY kz (zP (zO Z Z (seq ?_))))))))
    have hbt : ¬ Sf.inT l.length ts k := by show ¬ (Sf.low ts k ≤ nth ts (k : Int) ∧ nth ts (k : Int) ≤ (l.length : Int) - 1); omega
    refine region (oA hH12 Z (oA hH12 Z (zt (ret (yD (z2 (xT (yD (z2 ?_)))))))))
    have hH14 := (hH12.sub (sC sR))
    refine fin hH14 (fun w' hf => (xI Z (rt Z) (rt Z))) (fun w' hf => ?_)
    first | (rw [Sf.rt_1 hcn] <;> rfl) | (rw [Sf.rt_2 hc0 (k := k) (by omega) hbt] <;> rfl) | (have hqe : q = (Sf.rp l l.length).length := (by omega); rw [Sf.rt_3 hc0 htk, hqe, List.take_length] <;> rfl)
   refine zK [6, 7, 8, 9, 10, 11, 12, 13, 14, 15] kz hH12 _ _ _ kz (yE Z Z Z (dF hc13) Z (y9 Z) (yE Z Z Z (dF hc13) Z (y9 Z) (yE Z Z Z (dF hc13) Z (zS T.yV Z Z (ht.now hH12 (n := 1) Z).is om) (yE Z Z Z (dF hc13) Z (zF T.yU Z (fun _ hw => Rd.at (ht.now hw (n := 1) Z) (i := (k : Int)) om (j := 0) Z)) (yE Z Z Z (dF hc13) Z (zJ T.vP Z) (yE Z Z Z (dF hc13) Z (zF T.xK Z (cw (n := 0) Z Z)) (yE Z Z Z (dF hc13) Z (yA T.yV Z (h0.now hH12 (n := 1) Z).is) (yE Z Z Z (dF hc13) Z (vQ Z Z) (zL Z Z (zT Z (dF hc13) Z) (qM Z Z Z (zV ?_)))))))))))
   by_cases hc15 : (l.length : Int) ≤ (nth ts (k : Int))
   ·refine zK [16, 17, 18, 19, 20, 21, 22, 23, 24, 25, 26, 27, 28, 29, 30] kz hH12 _ _ _ kz (yT Z Z Z (dT hc15) Z (yT Z Z Z (dT hc15) Z (yT Z Z Z (dT hc15) Z (xD Z Z Z Z (xD Z Z Z Z (xD Z Z Z Z (xD Z Z Z Z (xD Z Z Z Z (xD Z Z Z Z (xD Z Z Z Z (xD Z Z Z Z (xD Z Z Z Z (xD Z Z Z Z (yT Z Z Z (dT hc15) Z (zL Z Z (zR Z (dT hc15) Z) (zV (zY kz (zP (zO Z Z (seq ?_))))))))))))))))))))
    have hbt : ¬ Sf.inT l.length ts k := by show ¬ (Sf.low ts k ≤ nth ts (k : Int) ∧ nth ts (k : Int) ≤ (l.length : Int) - 1); omega
    refine region (oA hH12 Z (oA hH12 Z (zt (ret (yD (z2 (xT (yD (z2 ?_)))))))))
    have hH16 := (hH12.sub (sC sR))
    refine fin hH16 (fun w' hf => (xI Z (rt Z) (rt Z))) (fun w' hf => ?_)
    first | (rw [Sf.rt_1 hcn] <;> rfl) | (rw [Sf.rt_2 hc0 (k := k) (by omega) hbt] <;> rfl) | (have hqe : q = (Sf.rp l l.length).length := (by omega); rw [Sf.rt_3 hc0 htk, hqe, List.take_length] <;> rfl)
   refine zK [16, 17, 18] kz hH12 _ _ _ kz (yE Z Z Z (dF hc15) Z (y9 Z) (yE Z Z Z (dF hc15) Z (xJ Z Z) (yE Z Z Z (dF hc15) Z (y9 Z) (zV ?_))))
   by_cases hc17 : 0 < (k : Int)
   ·refine zK [19, 20, 21, 22, 23, 24, 25, 26, 27, 28, 29, 30] kz hH12 _ _ _ kz (yE Z Z Z (dT hc17) Z (y9 Z) (yE Z Z Z (dT hc17) Z (y9 Z) (yE Z Z Z (dT hc17) Z (zS T.yV Z Z (ht.now hH12 (n := 1) Z).is om) (yE Z Z Z (dT hc17) Z (zF T.yU Z (fun _ hw => Rd.at (ht.now hw (n := 1) Z) (i := (k : Int)) om (j := 0) Z)) (yE Z Z Z (dT hc17) Z (y9 Z) (yE Z Z Z (dT hc17) Z (y9 Z) (yE Z Z Z (dT hc17) Z (xB Z Z om) (yE Z Z Z (dT hc17) Z (zS T.yV Z Z (ht.now hH12 (n := 1) Z).is om) (yE Z Z Z (dT hc17) Z (zF T.yU Z (fun _ hw => Rd.at (ht.now hw (n := 1) Z) (i := (k : Int) - 1) om (j := 0) Z)) (yE Z Z Z (dT hc17) Z (uH Z Z) (yE Z Z Z (dF hc15) Z (zR Z (dT hc17) Z) (zL Z Z (zT Z (dF hc15) Z) (zV (zY kz (zP ?_)))))))))))))))
    by_cases hc18 : (nth ts (k : Int)) ≤ (nth ts ((k : Int) - 1))
    ·refine zO Z (dT hc18) (seq ?_)
     have hbt : ¬ Sf.inT l.length ts k := by show ¬ (Sf.low ts k ≤ nth ts (k : Int) ∧ nth ts (k : Int) ≤ (l.length : Int) - 1); omega
     refine region (oA hH12 Z (oA hH12 Z (zt (ret (yD (z2 (xT (yD (z2 ?_)))))))))
     have hH19 := (hH12.sub (sC sR))
     refine fin hH19 (fun w' hf => (xI Z (rt Z) (rt Z))) (fun w' hf => ?_)
     first | (rw [Sf.rt_1 hcn] <;> rfl) | (rw [Sf.rt_2 hc0 (k := k) (by omega) hbt] <;> rfl) | (have hqe : q = (Sf.rp l l.length).length := (by omega); rw [Sf.rt_3 hc0 htk, hqe, List.take_length] <;> rfl)
    refine zM Z (dF hc18) (skip (yB (zP ?_)))
    have hgd : Sf.inT l.length ts k := by show Sf.low ts k ≤ nth ts (k : Int) ∧ nth ts (k : Int) ≤ (l.length : Int) - 1; omega
    refine region (oM hH12 Z (zA hH12 Z Z (zX Z Z om) (oA hH12 Z (zD (yY (k + 1) (uC Z (uC Z (uC Z (Sub.nil _)))) ?_ ?_)))))
    ·exact ⟨hH12, by omega, (fun j hj => by rcases Nat.lt_or_ge j k with h | h; exact hall j h; rw [show j = k by omega]; exact hgd)⟩
    ·first | (dsimp only; omega) | (show _ < _; omega)
   refine zK [19, 20, 21, 22, 23, 24, 25, 26, 27, 28, 29, 30] kz hH12 _ _ _ kz (yT Z Z Z (dF hc17) Z (yT Z Z Z (dF hc17) Z (yT Z Z Z (dF hc17) Z (yT Z Z Z (dF hc17) Z (yT Z Z Z (dF hc17) Z (yT Z Z Z (dF hc17) Z (yT Z Z Z (dF hc17) Z (yT Z Z Z (dF hc17) Z (yT Z Z Z (dF hc17) Z (yT Z Z Z (dF hc17) Z (yE Z Z Z (dF hc15) Z (zT Z (dF hc17) Z) (zL Z Z (zT Z (dF hc15) Z) (zV (zY kz (zP (zM Z Z (skip (yB (zP ?_)))))))))))))))))))
   have hgd : Sf.inT l.length ts k := by show Sf.low ts k ≤ nth ts (k : Int) ∧ nth ts (k : Int) ≤ (l.length : Int) - 1; omega
   refine region (oM hH12 Z (zA hH12 Z Z (zX Z Z om) (oA hH12 Z (zD (yY (k + 1) (uC Z (uC Z (uC Z (Sub.nil _)))) ?_ ?_)))))
   ·exact ⟨hH12, by omega, (fun j hj => by rcases Nat.lt_or_ge j k with h | h; exact hall j h; rw [show j = k by omega]; exact hgd)⟩
   ·first | (dsimp only; omega) | (show _ < _; omega)
  refine zM Z (dF hc9) (exit (yX (xF (z7 (zP (seq ?_))))))
  have htk : Sf.tOk l.length ts := fun j hj => hall j (by omega)
  have htl := Sf.tOk_len htk
  have hmb : 0 ≤ (ts.length : Int) * (room - 1) := Int.mul_nonneg (by omega) (by omega)
  have hmb2 : (ts.length : Int) * (room - 1) ≤ 100 * 5 := Int.mul_le_mul (by omega) (by omega) (by omega) (by omega)
  have hrl := Sf.rp_len (l := l) l.length
  refine region (zA hH8 Z Z (zJ T.vP Z) (zA hH8 Z Z (zF T.xK Z (cw (n := 0) Z Z)) (zA hH8 Z Z (yA T.yV Z (h0.now hH8 (n := 1) Z).is) (oM hH8 Z (zA hH8 Z Z (yA T.yV Z (ht.now hH8 (n := 1) Z).is) (zA hH8 Z Z (zJ T.Y2 Z) (zA hH8 Z Z (zF T.yU Z (cw (n := 0) Z Z)) (zA hH8 Z Z (xB Z Z om) (zA hH8 Z Z (xC Z Z om) (zA hH8 Z Z (x5 (show (l.length : Int) - ((ts.length : Int) * (room - 1)) = (((l.length : Int) - (ts.length : Int) * (room - 1) - ((((Sf.rp l l.length).take 0).filter fun p => !Sf.hit ts p).length : Int))) from (by rw [List.take_zero, List.filter_nil, List.length_nil]; exact (Int.sub_zero _).symm)) (xB Z Z om)) (oA hH8 Z (zs (zA hH8 Z Z (zW (cs := [(.int .i64 room), v]) T.xZ Z Z (fun _ hw => Heap.yI hw (n := 0) Z (k := 0) Z)) (y2 Z Z Z hH8 (zD4 (h0.now hH8 (n := 1) Z) om) (fun u22 w20 lo23 hi24 hH21 hv25 => ?_)))))))))))))))
  have hH26 := Heap.vA hH21 (n := 0) Z
  refine oA hH26 Z (zt (seq (zr (oA hH26 Z (zt (block (loop (S := Nat) (fun q => [(9, (.int .i64 (q : Int))), (7, (.int .i64 (((l.length : Int) - (ts.length : Int) * (room - 1) - ((((Sf.rp l l.length).take q).filter fun p => !Sf.hit ts p).length : Int))))), (1, vt), (8, u22)]) (fun q w1 => Heap [ow lo23 hi24 181 2 encP u22 (Sf.rp l l.length), bx b1 51 [(.int .i64 room), v], base w] w1 ∧ q ≤ (Sf.rp l l.length).length) (fun q => (Sf.rp l l.length).length - q) (0) (uC Z (uC Z (uC Z (uC Z (Sub.nil _))))) ?_ ?_)))))))
  ·exact ⟨hH26, by omega⟩
  rintro q w27 ⟨hH28, hq⟩
  have hcl := List.length_filter_le (fun p => !Sf.hit ts p) ((Sf.rp l l.length).take q)
  have hcl2 := List.length_take_le q (Sf.rp l l.length)
  refine seq (zr (oM hH28 Z (oM hH28 Z (zA hH28 Z Z (yA T.JZ Z (Heap.yO T.el179_encP hH28 (n := 0) Z).is) (zA hH28 Z Z (yK Z Z) (zt ?_))))))
  by_cases hc29 : (q : Int) < ((Sf.rp l l.length).length : Int)
  ·refine zO Z (dT hc29) (skip (zP (seq (block (zr (oA hH28 Z (zt (seq (zr (oA hH28 Z (zt (block (loop (S := Nat) (fun j => [(11, (.int .i64 (j : Int))), (10, (.bool (Sf.hit (ts.take j) (nth (Sf.rp l l.length) (q : Int))))), (1, vt), (7, (.int .i64 (((l.length : Int) - (ts.length : Int) * (room - 1) - ((((Sf.rp l l.length).take q).filter fun p => !Sf.hit ts p).length : Int))))), (8, u22), (9, (.int .i64 (q : Int)))]) (fun j w1 => Heap [ow lo23 hi24 181 2 encP u22 (Sf.rp l l.length), bx b1 51 [(.int .i64 room), v], base w] w1 ∧ j ≤ ts.length) (fun j => ts.length - j) (0) (uC Z (uC Z (uC Z (uC Z (uC Z (uC Z (Sub.nil _))))))) ?_ ?_)))))))))))))
   ·exact ⟨hH28, by omega⟩
   rintro j w30 ⟨hH31, hj⟩
   refine seq (zr (oM hH31 Z (oM hH31 Z (zA hH31 Z Z (yA T.yV Z (ht.now hH31 (n := 2) Z).is) (zA hH31 Z Z (yK Z Z) (zt ?_))))))
   by_cases hc32 : (j : Int) < (ts.length : Int)
   ·refine zO Z (dT hc32) (skip (zP (seq (block (zZ (fun w' => Heap [ow lo23 hi24 181 2 encP u22 (Sf.rp l l.length), bx b1 51 [(.int .i64 room), v], base w] w') T.mixed (fun w33 hr34 => ?_))))))
    have hH35 := hH31.redrawn hr34
    refine zK [0, 1] kz hH35 _ _ _ kz (qM Z Z Z (qM Z Z Z (zV ?_)))
    by_cases hc36 : Sf.hit (ts.take j) (nth (Sf.rp l l.length) (q : Int)) = true
    ·refine zK [2, 3, 4, 5, 6, 7, 8, 9, 10, 11, 12, 13, 14, 15, 16, 17, 18, 19, 20, 21, 22, 23, 24, 25] kz hH35 _ _ _ kz (yT Z Z Z hc36 Z (yT Z Z Z hc36 Z (yT Z Z Z hc36 Z (yT Z Z Z hc36 Z (yT Z Z Z hc36 Z (yT Z Z Z hc36 Z (yT Z Z Z hc36 Z (yT Z Z Z hc36 Z (yT Z Z Z hc36 Z (yT Z Z Z hc36 Z (yT Z Z Z hc36 Z (xD Z Z Z Z (xD Z Z Z Z (xD Z Z Z Z (xD Z Z Z Z (xD Z Z Z Z (xD Z Z Z Z (xD Z Z Z Z (xD Z Z Z Z (xD Z Z Z Z (xD Z Z Z Z ?_)))))))))))))))))))))
     refine yT Z Z Z hc36 Z (zL Z Z (zR Z hc36 Z) (zL Z Z (yG Z) (zV (zY kz (yB (zP (region (oM hH35 Z (zA hH35 Z Z (zX Z Z om) (oA hH35 Z (zD (yY (j + 1) (uC Z (Sub.cons (by refine congrArg (fun z : Bool => some (Value.bool z)) ?_; rw [Sf.hit_succ om]; first | (simp_all; done) | (simp_all; omega)) (uC Z (uC Z (uC Z (uC Z (Sub.nil _))))))) ?_ ?_))))))))))))
     ·exact ⟨hH35, by omega⟩
     ·first | (dsimp only; omega) | (show _ < _; omega)
    refine zK [2, 3, 4, 5, 6, 7, 8, 9, 10, 11, 12] kz hH35 _ _ _ kz (yE Z Z Z (Bool.eq_false_iff.2 hc36) Z (y9 Z) (yE Z Z Z (Bool.eq_false_iff.2 hc36) Z (y9 Z) (yE Z Z Z (Bool.eq_false_iff.2 hc36) Z (zS T.yV Z Z (ht.now hH35 (n := 2) Z).is om) (yE Z Z Z (Bool.eq_false_iff.2 hc36) Z (zF T.yU Z (fun _ hw => Rd.at (ht.now hw (n := 2) Z) (i := (j : Int)) om (j := 0) Z)) (yE Z Z Z (Bool.eq_false_iff.2 hc36) Z (y9 Z) (yE Z Z Z (Bool.eq_false_iff.2 hc36) Z (y9 Z) (yE Z Z Z (Bool.eq_false_iff.2 hc36) Z (zS T.JZ Z Z (Heap.yO T.el179_encP hH35 (n := 0) Z).is om) (yE Z Z Z (Bool.eq_false_iff.2 hc36) Z (z6 T.jO Z Z om) (yE Z Z Z (Bool.eq_false_iff.2 hc36) Z (zF T.yU Z (fun _ hw => Rd.at (Heap.yO T.el179_encP hw (n := 0) Z) (i := (q : Int)) om (j := 0) Z)) (yE Z Z Z (Bool.eq_false_iff.2 hc36) Z (xJ Z Z) (yE Z Z Z (Bool.eq_false_iff.2 hc36) Z (y9 Z) (zV ?_))))))))))))
    by_cases hc37 : ((nth (Sf.rp l l.length) (q : Int)).1) < (nth ts (j : Int))
    ·refine zK [13, 14, 15, 16, 17, 18, 19, 20, 21, 22, 23, 24, 25] kz hH35 _ _ _ kz (yE Z Z Z (dT hc37) Z (y9 Z) (yE Z Z Z (dT hc37) Z (y9 Z) (yE Z Z Z (dT hc37) Z (zS T.yV Z Z (ht.now hH35 (n := 2) Z).is om) (yE Z Z Z (dT hc37) Z (zF T.yU Z (fun _ hw => Rd.at (ht.now hw (n := 2) Z) (i := (j : Int)) om (j := 0) Z)) (yE Z Z Z (dT hc37) Z (y9 Z) (yE Z Z Z (dT hc37) Z (y9 Z) (yE Z Z Z (dT hc37) Z (zS T.JZ Z Z (Heap.yO T.el179_encP hH35 (n := 0) Z).is om) (yE Z Z Z (dT hc37) Z (z6 T.jO Z Z om) (yE Z Z Z (dT hc37) Z (zF T.yU Z (fun _ hw => Rd.at (Heap.yO T.el179_encP hw (n := 0) Z) (i := (q : Int)) om (j := 1) Z)) (yE Z Z Z (dT hc37) Z (yK Z Z) (yE Z Z Z (Bool.eq_false_iff.2 hc36) Z (zR Z (dT hc37) Z) (zL Z Z (zT Z (Bool.eq_false_iff.2 hc36) Z) (zL Z Z (yG Z) (zV (zY kz (yB (zP (region (oM hH35 Z (zA hH35 Z Z (zX Z Z om) (oA hH35 Z ?_)))))))))))))))))))))
     refine zD (yY (j + 1) (uC Z (Sub.cons (by refine congrArg (fun z : Bool => some (Value.bool z)) ?_; rw [Sf.hit_succ om]; first | (simp_all; done) | (simp_all; omega)) (uC Z (uC Z (uC Z (uC Z (Sub.nil _))))))) ?_ ?_)
     ·exact ⟨hH35, by omega⟩
     ·first | (dsimp only; omega) | (show _ < _; omega)
    refine zK [13, 14, 15, 16, 17, 18, 19, 20, 21, 22, 23, 24, 25] kz hH35 _ _ _ kz (yT Z Z Z (dF hc37) Z (yT Z Z Z (dF hc37) Z (yT Z Z Z (dF hc37) Z (yT Z Z Z (dF hc37) Z (yT Z Z Z (dF hc37) Z (yT Z Z Z (dF hc37) Z (yT Z Z Z (dF hc37) Z (yT Z Z Z (dF hc37) Z (yT Z Z Z (dF hc37) Z (yT Z Z Z (dF hc37) Z (yE Z Z Z (Bool.eq_false_iff.2 hc36) Z (zT Z (dF hc37) Z) (zL Z Z (zT Z (Bool.eq_false_iff.2 hc36) Z) (zL Z Z (yG Z) (zV (zY kz (yB (zP (region (oM hH35 Z (zA hH35 Z Z (zX Z Z om) (oA hH35 Z ?_)))))))))))))))))))))
    refine zD (yY (j + 1) (uC Z (Sub.cons (by refine congrArg (fun z : Bool => some (Value.bool z)) ?_; rw [Sf.hit_succ om]; first | (simp_all; done) | (simp_all; omega)) (uC Z (uC Z (uC Z (uC Z (Sub.nil _))))))) ?_ ?_)
    ·exact ⟨hH35, by omega⟩
    ·first | (dsimp only; omega) | (show _ < _; omega)
   refine zM Z (dF hc32) (exit (yX (xF (z7 (zP (seq ?_))))))
   have hje : j = ts.length := by omega
   have htt : ts.take j = ts := by rw [hje, List.take_length]
   refine region (oM hH31 Z (zA hH31 Z Z (y7 Z) (zt ?_)))
   by_cases hc38 : (!(Sf.hit (ts.take j) (nth (Sf.rp l l.length) (q : Int)))) = true
   ·have hnh : Sf.hit ts (nth (Sf.rp l l.length) (q : Int)) = false := by have hq := hc38; rw [htt] at hq; simpa using hq
    refine zO Z hc38 (region (oM hH31 Z (zA hH31 Z Z (xB Z Z om) (oA hH31 Z (zD (yB (zP (region (oM hH31 Z (zA hH31 Z Z (zX Z Z om) (oA hH31 Z (zD (yY (q + 1) (uC Z (Sub.cons (by first | exact congrArg (fun z : Int => some (Value.int .i64 z)) (by rw [Sf.mis_t om hnh]; omega) | exact congrArg (fun z : Int => some (Value.int .i64 z)) (by rw [Sf.mis_f om hht])) (uC Z (uC Z (Sub.nil _))))) ?_ ?_)))))))))))))
    ·exact ⟨hH31, by omega⟩
    ·first | (dsimp only; omega) | (show _ < _; omega)
   have hht : Sf.hit ts (nth (Sf.rp l l.length) (q : Int)) = true := by have hq := (Bool.eq_false_iff.2 hc38); rw [htt] at hq; simpa using hq
   refine zM Z (Bool.eq_false_iff.2 hc38) (skip (yB (zP (region (oM hH31 Z (zA hH31 Z Z (zX Z Z om) (oA hH31 Z (zD (yY (q + 1) (uC Z (Sub.cons (by first | exact congrArg (fun z : Int => some (Value.int .i64 z)) (by rw [Sf.mis_t om hnh]; omega) | exact congrArg (fun z : Int => some (Value.int .i64 z)) (by rw [Sf.mis_f om hht])) (uC Z (uC Z (Sub.nil _))))) ?_ ?_)))))))))
   ·exact ⟨hH31, by omega⟩
   ·first | (dsimp only; omega) | (show _ < _; omega)
  refine zM Z (dF hc29) (exit (yX (xF (z7 (zu (oM hH28 Z (oA hH28 Z (oA hH28 Z (zt (ret ?_))))))))))
  have hH39 := (hH28.sub (sC (sC sR)))
  refine fin hH39 (fun w' hf => (xI Z (rt Z) (rt Z))) (fun w' hf => ?_)
  first | (rw [Sf.rt_1 hcn] <;> rfl) | (rw [Sf.rt_2 hc0 (k := k) (by omega) hbt] <;> rfl) | (have hqe : q = (Sf.rp l l.length).length := (by omega); rw [Sf.rt_3 hc0 htk, hqe, List.take_length] <;> rfl)
 have hcn : ¬ Sf.ck room l = 0 := by have hq := (zG hc6); simpa using hq
 refine zO Z (zG hc6) (zr (zA hH5 Z Z (zW (cs := [(.int .i64 room), v]) T.xZ Z Z (fun _ hw => Heap.yI hw (n := 0) Z (k := 0) Z)) (zN Z Z Z hH5 (zCb (h0.now hH5 (n := 1) Z) om) (fun w40 hH41 => (oA hH41 Z (oA hH41 Z (zt (ret (z2 ?_)))))))))
 have hH42 := (hH41.sub (sC sR))
 refine fin hH42 (fun w' hf => (xI Z (rt Z) (rt Z))) (fun w' hf => ?_)
 first | (rw [Sf.rt_1 hcn] <;> rfl) | (rw [Sf.rt_2 hc0 (k := k) (by omega) hbt] <;> rfl) | (have hqe : q = (Sf.rp l l.length).length := (by omega); rw [Sf.rt_3 hc0 htk, hqe, List.take_length] <;> rfl)
end Go.Fip
namespace Go.Fip
namespace Sf
def inG (old last : Int) (p : Int × Int) : Bool := decide (old - 1 ≤ p.1) && decide (p.2 ≤ last - 1) && (decide (0 < old) || decide (0 ≤ p.1))
def lostTo (ps : List (Int × Int)) (A : List Int) (last old i : Nat) : Int := nth A (old : Int) + (((ps.take i).filter (inG (old : Int) (last : Int))).length : Int)
def lostOf (room : Int) (n : Nat) (ps : List (Int × Int)) (A : List Int) (last old : Nat) : Int := lostTo ps A last old ps.length + if (last : Int) ≤ (n : Int) then room - 1 else 0
def tmI (room : Int) (n : Nat) (ps : List (Int × Int)) (last : Nat) (s : List Int × List Int) : Nat → List Int × List Int
 | 0 => s
 | old + 1 => if lostOf room n ps (tmI room n ps last s old).1 last old < nth (tmI room n ps last s old).1 (last : Int) then ((tmI room n ps last s old).1.set last (lostOf room n ps (tmI room n ps last s old).1 last old), (tmI room n ps last s old).2.set last (old : Int)) else tmI room n ps last s old
def tmO (room : Int) (n : Nat) (ps : List (Int × Int)) : Nat → List Int × List Int
 | 0 => (List.replicate (n + 2) 0, List.replicate (n + 2) 0)
 | k + 1 => tmI room n ps (k + 1) ((tmO room n ps k).1.set (k + 1) 1000, (tmO room n ps k).2) (k + 1)
structure TmOk (n : Nat) (s : List Int × List Int) : Prop where
 l1 : s.1.length = n + 2
 l2 : s.2.length = n + 2
 a : ∀ j : Nat, j < n + 2 → 0 ≤ nth s.1 (j : Int) ∧ nth s.1 (j : Int) ≤ 1000
 b : ∀ j : Nat, j < n + 2 → 0 ≤ nth s.2 (j : Int) ∧ (nth s.2 (j : Int) < j ∨ nth s.2 (j : Int) ≤ 0)
theorem ZV {l : List Int} {i j : Nat} {x : Int} (hj : j < l.length) : nth (l.set i x) (j : Int) = if j = i then x else nth l (j : Int) := by
 rw [yJ (by rw [List.length_set]; exact hj), List.getElem_set]
 by_cases h : i = j
 ·rw [if_pos h, if_pos h.symm]
 ·rw [if_neg h, if_neg (fun e => h e.symm), yJ hj]
theorem Z4 {n j : Nat} {x : Int} (h : j < n) : nth (List.replicate n x) (j : Int) = x := by rw [yJ (by simpa using h), List.getElem_replicate]
theorem TmOk.start (n : Nat) : TmOk n (List.replicate (n + 2) 0, List.replicate (n + 2) 0) := ⟨by simp, by simp, fun j hj => by rw [Z4 hj]; omega, fun j hj => by rw [Z4 hj]; omega⟩
theorem TmOk.set1 {n : Nat} {s : List Int × List Int} (h : TmOk n s) {i : Nat} {x : Int} (hx : 0 ≤ x ∧ x ≤ 1000) : TmOk n (s.1.set i x, s.2) :=
  ⟨by rw [List.length_set]; exact h.l1, h.l2, fun j hj => by
    show 0 ≤ nth (s.1.set i x) _ ∧ _
    rw [ZV (by rw [h.l1]; exact hj)]
    split
    · exact hx
    · exact h.a j hj, h.b⟩
theorem TmOk.set2 {n : Nat} {s : List Int × List Int} (h : TmOk n s) {i old : Nat} (ho : old < i) : TmOk n (s.1, s.2.set i (old : Int)) :=
  ⟨h.l1, by rw [List.length_set]; exact h.l2, h.a, fun j hj => by
    show 0 ≤ nth (s.2.set i _) _ ∧ _
    rw [ZV (by rw [h.l2]; exact hj)]
    split
    · omega
    · exact h.b j hj⟩
theorem zA0 {n : Nat} {s : List Int × List Int} (h : TmOk n s) {room : Int} {ps : List (Int × Int)} {last old : Nat} (hr : 1 ≤ room) (ho : old < n + 2) : 0 ≤ lostOf room n ps s.1 last old := by
 have := h.a old ho
 unfold lostOf lostTo; split <;> omega
theorem GY {room : Int} {n : Nat} {ps : List (Int × Int)} {last : Nat} {s : List Int × List Int} (h : TmOk n s) (hr : 1 ≤ room) (hl : last < n + 2) : ∀ old, old ≤ last → TmOk n (tmI room n ps last s old)
 | 0, _ => h
 | old + 1, ho => by
  have ih := GY (ps := ps) h hr hl old (by omega)
  show TmOk n (if _ then _ else _)
  split
  ·rename_i hlt
   have h1 := zA0 (ps := ps) (last := last) ih hr (show old < n + 2 by omega)
   have h2 := ih.a last hl
   exact (ih.set1 (i := last) ⟨h1, by omega⟩).set2 (by omega)
  ·exact ih
theorem tmO_ok {room : Int} {n : Nat} {ps : List (Int × Int)} (hr : 1 ≤ room) : ∀ k, k ≤ n + 1 → TmOk n (tmO room n ps k)
 | 0, _ => TmOk.start n
 | k + 1, hk => GY ((tmO_ok hr k (by omega)).set1 (by omega)) hr (by omega) _ (Nat.le_refl _)
theorem zA9 {room : Int} {n : Nat} {ps : List (Int × Int)} {last : Nat} {s : List Int × List Int} {old : Nat} (h : lostOf room n ps (tmI room n ps last s old).1 last old < nth (tmI room n ps last s old).1 (last : Int)) :
  tmI room n ps last s (old + 1) = ((tmI room n ps last s old).1.set last (lostOf room n ps (tmI room n ps last s old).1 last old), (tmI room n ps last s old).2.set last (old : Int)) := if_pos h
theorem zCt {room : Int} {n : Nat} {ps : List (Int × Int)} {last : Nat} {s : List Int × List Int} {old : Nat} (h : ¬ lostOf room n ps (tmI room n ps last s old).1 last old < nth (tmI room n ps last s old).1 (last : Int)) :
  tmI room n ps last s (old + 1) = tmI room n ps last s old := if_neg h
theorem lost_0 {ps : List (Int × Int)} {A : List Int} {last old : Nat} : nth A (old : Int) = lostTo ps A last old 0 := by unfold lostTo; simp
theorem lost_t {ps : List (Int × Int)} {A : List Int} {last old i : Nat} (hi : i < ps.length) (h : inG (old : Int) (last : Int) (nth ps (i : Int)) = true) : lostTo ps A last old i + 1 = lostTo ps A last old (i + 1) := by
 unfold lostTo
 rw [← uV hi, List.filter_append]; simp [h]; omega
theorem lost_f {ps : List (Int × Int)} {A : List Int} {last old i : Nat} (hi : i < ps.length) (h : inG (old : Int) (last : Int) (nth ps (i : Int)) = false) : lostTo ps A last old i = lostTo ps A last old (i + 1) := by
 unfold lostTo
 rw [← uV hi, List.filter_append]; simp [h]
theorem lost_le {ps : List (Int × Int)} {A : List Int} {last old i : Nat} (ha : 0 ≤ nth A (old : Int) ∧ nth A (old : Int) ≤ 1000) : 0 ≤ lostTo ps A last old i ∧ lostTo ps A last old i ≤ 1000 + ps.length := by
 have h1 := List.length_filter_le (inG (old : Int) (last : Int)) (ps.take i)
 have h2 := List.length_take_le' i ps
 unfold lostTo; omega
def back (B : List Int) : Nat → Int → List Int
 | 0, _ => []
 | f + 1, a => if 0 < a then (a - 1) :: back B f (nth B a) else []
theorem zBo {B : List Int} {f : Nat} {a : Int} (h : 0 < a) : back B (f + 1) a = (a - 1) :: back B f (nth B a) := if_pos h
theorem back_f {B : List Int} {f : Nat} {a : Int} (h : ¬ 0 < a) : back B f a = [] := by
 cases f with
 | zero => rfl
 | succ f => exact if_neg h
def tm (room : Int) (n : Nat) (ps : List (Int × Int)) : List Int := (back (tmO room n ps (n + 1)).2 (n + 2) (nth (tmO room n ps (n + 1)).2 ((n : Int) + 1))).reverse
theorem back_step {B : List Int} {f : Nat} {a : Int} {out T : List Int} (h0 : 0 < a) (hf : a.toNat ≤ f) (h : out ++ back B f a = T) : (out ++ [a - 1]) ++ back B (f - 1) (nth B a) = T := by
 obtain ⟨g, rfl⟩ : ∃ g, f = g + 1 := ⟨f - 1, by omega⟩
 rw [zBo h0] at h
 rw [List.append_assoc]
 exact h
theorem TmOk.next {n : Nat} {s : List Int × List Int} (h : TmOk n s) {a : Int} (h0 : 0 < a) (h1 : a < (n : Int) + 2) : 0 ≤ nth s.2 a ∧ nth s.2 a < a := by
 have := h.b a.toNat (by omega)
 rw [show ((a.toNat : Nat) : Int) = a by omega] at this
 omega
def tmS (room : Int) (n : Nat) (ps : List (Int × Int)) (q : Nat) : List Int × List Int := ((tmO room n ps q).1.set (q + 1) 1000, (tmO room n ps q).2)
def tmP (room : Int) (n : Nat) (ps : List (Int × Int)) (q old : Nat) : List Int × List Int := tmI room n ps (q + 1) (tmS room n ps q) old
theorem tmP_done {room : Int} {n : Nat} {ps : List (Int × Int)} {q : Nat} : tmP room n ps q (q + 1) = tmO room n ps (q + 1) := rfl
theorem tmP_ok {room : Int} {n : Nat} {ps : List (Int × Int)} {q old : Nat} (hr : 1 ≤ room) (hq : q ≤ n) (ho : old ≤ q + 1) : TmOk n (tmP room n ps q old) :=
 GY ((tmO_ok hr q (by omega)).set1 (by omega)) hr (by omega) _ ho
theorem toNat1 (q : Nat) : ((q : Int) + 1).toNat = q + 1 := by omega
theorem tmP_t1 {room : Int} {n : Nat} {ps : List (Int × Int)} {q old : Nat} (h : lostOf room n ps (tmP room n ps q old).1 (q + 1) old < nth (tmP room n ps q old).1 ((q : Int) + 1)) :
  (tmP room n ps q old).1.set ((q : Int) + 1).toNat (lostOf room n ps (tmP room n ps q old).1 (q + 1) old) = (tmP room n ps q (old + 1)).1 := by
 unfold tmP at h ⊢
 rw [zA9 h, toNat1]
theorem tmP_t2 {room : Int} {n : Nat} {ps : List (Int × Int)} {q old : Nat} (h : lostOf room n ps (tmP room n ps q old).1 (q + 1) old < nth (tmP room n ps q old).1 ((q : Int) + 1)) :
  (tmP room n ps q old).2.set ((q : Int) + 1).toNat (old : Int) = (tmP room n ps q (old + 1)).2 := by
 unfold tmP at h ⊢
 rw [zA9 h, toNat1]
theorem tmP_f {room : Int} {n : Nat} {ps : List (Int × Int)} {q old : Nat} (h : ¬ lostOf room n ps (tmP room n ps q old).1 (q + 1) old < nth (tmP room n ps q old).1 ((q : Int) + 1)) : tmP room n ps q old = tmP room n ps q (old + 1) := by
 unfold tmP at h ⊢
 rw [zCt h]
def sn (c : List Int) : Nat → List Int
 | 0 => List.replicate 9 0
 | k + 1 => (sn c k).set (nth c (k : Int)).toNat 1
theorem sn_len (c : List Int) : ∀ k, (sn c k).length = 9
 | 0 => rfl
 | k + 1 => by show ((sn c k).set _ _).length = 9; rw [List.length_set]; exact sn_len c k
theorem sn_01 (c : List Int) : ∀ k, ∀ j : Nat, j < 9 → 0 ≤ nth (sn c k) (j : Int) ∧ nth (sn c k) (j : Int) ≤ 1
 | 0, j, hj => by
  rw [show sn c 0 = List.replicate 9 0 from rfl, Z4 hj]; omega
 | k + 1, j, hj => by
  rw [show sn c (k + 1) = (sn c k).set (nth c (k : Int)).toNat 1 from rfl, ZV (by rw [sn_len]; exact hj)]
  split
  ·omega
  ·exact sn_01 c k j hj
def cutL (l : List Int) (p : Int × Int) : List Int := (l.take p.2.toNat).drop p.1.toNat
def dpOf (l : List Int) (p : Int × Int) : Int := sumTo (sn (cutL l p) (cutL l p).length) 9
def dp (l : List Int) (ps : List (Int × Int)) (want : Int) : Int := match ps.find? (fun p => decide (p.2 = want)) with
 | some p => dpOf l p
 | none => 0
theorem dp_hit {l : List Int} {ps : List (Int × Int)} {want : Int} {i : Nat} (hi : i < ps.length) (h : (nth ps (i : Int)).2 = want) (hall : ∀ j, j < i → ¬ (nth ps (j : Int)).2 = want) : dpOf l (nth ps (i : Int)) = dp l ps want := by
 have : ps.find? (fun p => decide (p.2 = want)) = some (nth ps (i : Int)) := by
  rw [yJ hi]
  refine List.find?_eq_some_iff_getElem.2 ⟨by rw [yJ hi] at h; simpa using h, i, hi, rfl, fun j hj => ?_⟩
  have := hall j hj
  rw [yJ (by omega)] at this
  simpa using this
 unfold dp; rw [this]
theorem dp_miss {l : List Int} {ps : List (Int × Int)} {want : Int} (hall : ∀ j, j < ps.length → ¬ (nth ps (j : Int)).2 = want) : 0 = dp l ps want := by
 have : ps.find? (fun p => decide (p.2 = want)) = none := by
  rw [List.find?_eq_none]
  intro p hp
  obtain ⟨j, hj, rfl⟩ := List.getElem_of_mem hp
  have := hall j hj
  rw [yJ hj] at this
  simpa using this
 unfold dp; rw [this]
def dps (l : List Int) (ps : List (Int × Int)) : Nat → List Int
 | 0 => []
 | k + 1 => dps l ps k ++ [dp l ps (k : Int)]
theorem dps_len (l : List Int) (ps : List (Int × Int)) : ∀ k, (dps l ps k).length = k
 | 0 => rfl
 | k + 1 => by show (dps l ps k ++ _).length = _; rw [List.length_append, dps_len l ps k]; rfl
theorem KJ {m : Mm} {i : Nat} : ∀ {j : Nat}, ∀ p ∈ ends m i j, 0 ≤ p.1 ∧ p.1 < (j : Int) ∧ p.2 = (i : Int)
 | 0, p, h => by cases h
 | j + 1, p, h => by
  rcases List.mem_append.1 h with h1 | h1
  ·have := KJ p h1; omega
  ·split at h1
   ·rw [List.mem_singleton.1 h1]
    exact ⟨by show (0 : Int) ≤ (j : Int); omega, by show (j : Int) < ((j + 1 : Nat) : Int); omega, rfl⟩
   ·cases h1
theorem J0 {m : Mm} : ∀ {n : Nat}, ∀ p ∈ lst m n, 0 ≤ p.1 ∧ p.1 < p.2 ∧ p.2 < (n : Int)
 | 0, p, h => by cases h
 | n + 1, p, h => by
  rcases List.mem_append.1 h with h1 | h1
  ·have := J0 p h1; omega
  ·have := KJ p h1; omega
theorem lst_nth {m : Mm} {n i : Nat} (hi : i < (lst m n).length) : 0 ≤ (nth (lst m n) (i : Int)).1 ∧ (nth (lst m n) (i : Int)).1 < (nth (lst m n) (i : Int)).2 ∧ (nth (lst m n) (i : Int)).2 < (n : Int) := J0 _ (by rw [yJ hi]; exact List.getElem_mem hi)
end Sf
end Go.Fip
namespace Go.Fip
open Go.Proofs Go.RowKit
theorem zC6 {v : Value} {w : World} (h0 : Rd encI 1 v ([] : List Int) w)  :
  Fn Tryz.prog 160 [v].toArray w (fun u _ => u = .tuple #[]) := by
 refine fz Tryz.func160 Z kz Z Z (fun hH => (zr (oM hH Z (zA hH Z Z (yA T.yV Z (h0.now hH (n := 0) Z).is) (zA hH Z Z (xB Z Z (by simp)) (oA hH Z (oA hH Z (zt (block (loop (S := Nat) (fun k => [(2, (.int .i64 0)), (3, (.int .i64 (-1))), (0, v)]) (fun k w1 => Heap [base w] w1) (fun k => k) (0) (uC Z (uC Z (uC Z (Sub.nil _)))) ?_ ?_))))))))))
 ·exact hH
 rintro k w1 hH2
 refine seq (zr (oM hH2 Z (oM hH2 Z (zA hH2 Z Z (yK Z Z) (zt (zM Z Z (exit (yX (xF (z7 (zDa hH2 (fun w' hf => (kA Z )) (fun w' hf => ?_))))))))))))
 rfl
theorem zEu {bb mb : Nat} {room : Int} {v : Value} {C : List Int} {w : World} (kb : Bx bb 148 (seg [.int .i64 room, v] C [.map (some mb)]) w) (hC : C.length = 9) {l : List Int} (h0 : Rd encI 1 v l w) (hn : l.length ≤ 16) {m : Sf.Mm} (hm : Mp Sf.kvS Sf.vvI mb m w) (hr : 1 ≤ room ∧ room ≤ 6)  :
  Fn Tryz.prog 122 [(.pointer (some ⟨bb, 0, none⟩))].toArray w (fun u w => Rd encI 1 u (Sf.tm room l.length (Sf.lst m l.length)) w) := by
 refine fz Tryz.func122 Z kz Z Z (fun hH => ?_)
 have hll := Sf.lst_len (m := m) l.length hn
 have hlm : ((Sf.lst m l.length).map Sf.kvS).length = (Sf.lst m l.length).length := List.length_map ..
 refine zr (oA hH Z (zs (oM hH Z (zA hH Z Z (yQ Z) (zA hH Z Z (zJ T.vX Z) (zA hH Z Z (zJ T.vP Z) (zA hH Z Z (xV T.xK Z (by rfl) Z (fun _ hw => (kb.now hw (n := 0) Z))) (zA hH Z Z (yA T.yV Z (h0.now hH (n := 0) Z).is) (oA hH Z (zt (cut (S := Value × Nat × Nat × Value × Nat × Nat) (fun (v_c4, lo_c4, hi_c4, v_c5, lo_c5, hi_c5) => [(4, v_c4), (5, v_c5), (0, (.pointer (some ⟨bb, 0, none⟩))), (2, (.slice none 0 0)), (3, (.int .i64 (l.length : Int)))]) (fun (v_c4, lo_c4, hi_c4, v_c5, lo_c5, hi_c5) w1 => Heap [ow lo_c4 hi_c4 3 1 encI v_c4 (List.replicate ((l.length : Int) + 2).toNat (0 : Int)), ow lo_c5 hi_c5 3 1 encI v_c5 (List.replicate ((l.length : Int) + 2).toNat (0 : Int)), base w] w1) ?_ ?_)))))))))))
 ·refine zZ (fun w' => Heap [base w] w') T.mixed (fun w1 hr2 => ?_)
  have hH3 := hH.redrawn hr2
  refine zK [0, 1, 3, 4] kz hH3 _ _ _ kz (qM Z Z Z (zL Z Z (zX Z Z om) (qM Z Z Z (zL Z Z (zX Z Z om) (zV (xH [2, 5] kz Z (⟨⟨_, Z, ?_⟩, ⟨_, Z, ?_⟩, trivial⟩)))))))
  ·refine qU T.zC (0 : Int) T.uO Z Z Z hH3 om om (fun u4 lo6 hi7 w5 hH8 => (zD (⟨(hH8.sub (sC sR)), (zK [6] kz (hH8.sub (sC sR)) _ _ _ kz (zL Z Z (yG Z) (zV (z1 5 kz Z (qU T.zC (0 : Int) T.uO Z Z Z hH8 om om (fun u9 lo11 hi12 w10 hH13 => (zD (⟨(hH13.sub (sC (sC sR))), (zK [7] kz (hH13.sub (sC (sC sR))) _ _ _ kz (zL Z Z (yG Z) (zV (zY kz ?_))))⟩))))))))⟩)))
   have hH14 := hH13.front (n := 1) Z
   refine kW (u4, lo6, hi7, u9, lo11, hi12) (uC Z (uC Z (uC Z (uC Z (uC Z (Sub.nil _)))))) ?_
   exact hH14
  refine qU T.zC (0 : Int) T.uO Z Z Z hH3 om om (fun u15 lo17 hi18 w16 hH19 => (zD (⟨(hH19.sub (sC sR)), (z1 2 kz Z (qU T.zC (0 : Int) T.uO Z Z Z hH19 om om (fun u20 lo22 hi23 w21 hH24 => (zD (⟨(hH24.sub (sC (sC sR))), (zK [6, 7] kz (hH24.sub (sC (sC sR))) _ _ _ kz (zL Z Z (yG Z) (zL Z Z (yG Z) (zV (zY kz (kW (u20, lo22, hi23, u15, lo17, hi18) (uC Z (uC Z (uC Z (uC Z (uC Z (Sub.nil _)))))) ?_))))))⟩)))))⟩)))
  exact hH24
 rintro ⟨v_c4, lo_c4, hi_c4, v_c5, lo_c5, hi_c5⟩ w25 hH26
 refine seq (zr (yC (z := (.int .i64 0)) (fun _ => by kernel_rfl) Z Z hH26 (fun b27 w28 hH29 => (zU (n := 0) (j := 0) Z Z hH29 Z T.sz3 Z Z Z (by rfl) (fun w30 hH31 => (zt (block (loopD (S := Nat × Nat × List Nat × Value × Nat × Nat × Value × Nat × Nat) (fun (q, b6, Ds, v_4, lo_4, hi_4, v_5, lo_5, hi_5) => [(6, (.pointer (some ⟨b6, 0, none⟩))), (4, v_4), (5, v_5), (0, (.pointer (some ⟨bb, 0, none⟩))), (2, (.slice none 0 0)), (3, (.int .i64 (l.length : Int)))]) (fun (q, b6, Ds, v_4, lo_4, hi_4, v_5, lo_5, hi_5) => Ds.map isMark) (fun (q, b6, Ds, v_4, lo_4, hi_4, v_5, lo_5, hi_5) w1 => Heap ([bx b6 3 [(.int .i64 ((q : Int) + 1))], ow lo_4 hi_4 3 1 encI v_4 ((Sf.tmO room l.length (Sf.lst m l.length) q).1), ow lo_5 hi_5 3 1 encI v_5 ((Sf.tmO room l.length (Sf.lst m l.length) q).2), base w] ++ Ds.map markItem) w1 ∧ q ≤ l.length + 1) (fun (q, b6, Ds, v_4, lo_4, hi_4, v_5, lo_5, hi_5) => l.length + 1 - q) (0, b27, [], v_c4, lo_c4, hi_c4, v_c5, lo_c5, hi_c5) Z (uC Z (uC Z (uC Z (uC Z (uC Z (uC Z (Sub.nil _))))))) ?_ ?_))))))))
 ·exact ⟨(Heap.xA (n := 0) (Heap.y5 (n := 2) (Heap.y5 (n := 1) hH31 Z (Z)) Z (Z)) Z (Z)), by omega⟩
 rintro ⟨q, b6, Ds, v_4, lo_4, hi_4, v_5, lo_5, hi_5⟩ w32 ⟨hH33, hq⟩
 have hok := Sf.tmO_ok (n := l.length) (ps := (Sf.lst m l.length)) hr.1 q hq
 have hk1 := hok.l1
 have hk2 := hok.l2
 refine seq (zr (zA hH33 Z Z (zF T.yU Z (cw (n := 0) Z Z)) (oM hH33 Z (zA hH33 Z Z (zX Z Z om) (zA hH33 Z Z (uH Z Z) (zt ?_))))))
 by_cases hc34 : ((q : Int) + 1) ≤ ((l.length : Int) + 1)
 ·refine zO Z (dT hc34) (skip (zP (seq (block (zr (oM hH33 Z (zA hH33 Z Z (zF T.yU Z (cw (n := 0) Z Z)) (zA hH33 Z Z (zS T.yV Z Z (Heap.yO T.zC hH33 (n := 1) Z).is om) (vC (n := 1) (i := ((q : Int) + 1)) (k := 0) (us := [(.int .i64 1000)]) (z := 1000) T.zC Z Z hH33 Z om T.sz3 Z Z Z (Nat.le_of_ble_eq_true Z) (fun w35 hH36 => (zs (zA hH36 Z Z (zF T.yU Z (cw (n := 0) Z Z)) (oM hH36 Z (zt (block (loopD (S := Nat × List Nat × Value × Nat × Nat × Value × Nat × Nat) (fun (old, Ds, v_4, lo_4, hi_4, v_5, lo_5, hi_5) => [(34, (.int .i64 (old : Int))), (4, v_4), (5, v_5), (0, (.pointer (some ⟨bb, 0, none⟩))), (2, (.slice none 0 0)), (3, (.int .i64 (l.length : Int))), (6, (.pointer (some ⟨b6, 0, none⟩))), (33, (.int .i64 ((q : Int) + 1)))]) (fun (old, Ds, v_4, lo_4, hi_4, v_5, lo_5, hi_5) => Ds.map isMark) (fun (old, Ds, v_4, lo_4, hi_4, v_5, lo_5, hi_5) w1 => Heap ([bx b6 3 [(.int .i64 ((q : Int) + 1))], ow lo_4 hi_4 3 1 encI v_4 ((Sf.tmP room l.length (Sf.lst m l.length) q old).1), ow lo_5 hi_5 3 1 encI v_5 ((Sf.tmP room l.length (Sf.lst m l.length) q old).2), base w] ++ Ds.map markItem) w1 ∧ old ≤ q + 1) (fun (old, Ds, v_4, lo_4, hi_4, v_5, lo_5, hi_5) => q + 1 - old) (0, Ds, v_4, lo_4, hi_4, v_5, lo_5, hi_5) Z (uC Z (uC Z (uC Z (uC Z (uC Z (uC Z (uC Z (uC Z (Sub.nil _))))))))) ?_ ?_))))))))))))))))
  ·exact ⟨(Heap.y5 (n := 2) (Heap.y5 (n := 1) hH36 Z (by rw [Sf.toNat1]; rfl)) Z (Z)), by omega⟩
  rintro ⟨old, Ds, v_4, lo_4, hi_4, v_5, lo_5, hi_5⟩ w37 ⟨hH38, ho⟩
  have hok2 := Sf.tmP_ok (n := l.length) (ps := (Sf.lst m l.length)) hr.1 (show q ≤ l.length by omega) ho
  have hk3 := hok2.l1
  have hk4 := hok2.l2
  refine zr (zA hH38 Z Z (yK Z Z) (zt (seq ?_)))
  by_cases hc39 : (old : Int) < ((q : Int) + 1)
  ·refine zO Z (dT hc39) (skip (zP (seq (block (zr (oM hH38 Z (yC (z := (.int .i64 0)) (fun _ => by kernel_rfl) Z Z hH38 (fun b40 w41 hH42 => (zU (n := 0) (j := 0) Z Z hH42 Z T.sz3 Z Z Z (by rfl) (fun w43 hH44 => (zt (seq ?_))))))))))))
   have hok3 := hok2.a old (by omega)
   refine region (oM hH44 Z (zA hH44 Z Z (zF T.yU Z (cw (n := 0) Z Z)) (zA hH44 Z Z (zS T.yV Z Z (Heap.yO T.zC hH44 (n := 2) Z).is om) (zA hH44 Z Z (x5 (show nth ((Sf.tmP room l.length (Sf.lst m l.length) q old).1) (old : Int) = (Sf.lostTo (Sf.lst m l.length) (Sf.tmP room l.length (Sf.lst m l.length) q old).1 (q + 1) old 0) from Sf.lost_0) (zF T.yU Z (fun _ hw => Rd.at (Heap.yO T.zC hw (n := 2) Z) (i := (old : Int)) om (j := 0) Z))) (yC (z := (.int .i64 0)) (fun _ => by kernel_rfl) Z Z hH44 (fun b45 w46 hH47 => (zU (n := 0) (j := 0) Z Z hH47 Z T.sz3 Z Z Z (by rfl) (fun w48 hH49 => (zt (seq (zr (oM hH49 Z (y2 Z Z Z hH49 (zBn) (fun u53 w51 lo54 hi55 hH52 hv56 => ?_))))))))))))))
   obtain ⟨c50, hu, -⟩ := hv56
   subst hu
   have hH57 := Heap.zBl hH52 (n := 0) Z
   refine zt (block (rangeFunc (xs := ((Sf.lst m l.length).map Sf.kvS)) Z (JX (bb := bb) (mb := mb) (room := room) (v := v) (C := C) (l := l) (m := m) hC hn) Z hH57 (fun i H => H = [⟨lo54, hi55, Bx c50 76 [.pointer (some ⟨bb, 0, none⟩)]⟩, bx b45 3 [(.int .i64 (Sf.lostTo (Sf.lst m l.length) (Sf.tmP room l.length (Sf.lst m l.length) q old).1 (q + 1) old i))], bx b40 3 [(.int .i64 (old : Int))], bx b6 3 [(.int .i64 ((q : Int) + 1))], ow lo_4 hi_4 3 1 encI v_4 ((Sf.tmP room l.length (Sf.lst m l.length) q old).1), ow lo_5 hi_5 3 1 encI v_5 ((Sf.tmP room l.length (Sf.lst m l.length) q old).2), base w] ++ Ds.map markItem ∧ True) (fun c H => False) ⟨Z, trivial⟩ (fun i H w hI hw => ?_) (fun l58 D59 i60 x61 H w63 rc hx62 hI hH64 => ?_) (fun D59 H w63 hI hH64 => ?_) (fun D59 c H w63 hI hH64 => ?_)))
   ·obtain ⟨rfl, _⟩ := hI
    exact (show BW c50 bb mb room v C m l _ from ⟨hw.get (n := 0) Z, kb.now hw (n := 6) Z, hm.now hw (n := 6) Z, h0.now hw (n := 6) Z⟩)
   ·obtain ⟨rfl, _⟩ := hI
    obtain ⟨hlt, hxe⟩ := j5 hx62
    subst hxe
    have hpn := Sf.lst_nth hlt
    have hle := Sf.lost_le (ps := (Sf.lst m l.length)) (A := (Sf.tmP room l.length (Sf.lst m l.length) q old).1) (last := q + 1) (old := old) (i := i60) hok3
    refine region (yC (z := (.agg #[(.int .i64 0), (.int .i64 0)])) (fun _ => by kernel_rfl) Z Z hH64 (fun b67 w68 hH69 => (zU (n := 0) (j := 0) Z Z hH69 Z T.GB Z Z Z (by rfl) (fun w70 hH71 => (zD ?_)))))
    have hH74 := hH71.front (n := 1) Z
    refine ⟨_, hH74, fun w72 hH73 => (block (zr (zA hH73 Z Z (zJ T.XW Z) (zA hH73 Z Z (zF T.yU Z (cw (n := 1) Z Z)) (zA hH73 Z Z (zF T.yU Z (cw (n := 5) Z Z)) (zA hH73 Z Z (xB Z Z om) (zA hH73 Z Z (vQ Z Z) (oM hH73 Z ?_))))))))⟩
    by_cases hc75 : ((old : Int) - 1) ≤ ((nth (Sf.lst m l.length) (i60 : Int)).1)
    ·refine zB Z Z (dT hc75) (zA hH73 Z Z (zJ T.ZF Z) (zB Z Z (dT hc75) (zA hH73 Z Z (zF T.yU Z (cw (n := 1) Z Z)) (zB Z Z (dT hc75) (zA hH73 Z Z (zF T.yU Z (cw (n := 6) Z Z)) (zB Z Z (dT hc75) (zA hH73 Z Z (xB Z Z om) (zB Z Z (dT hc75) (zA hH73 Z Z (uH Z Z) (zA hH73 Z Z (zR Z (dT hc75) Z) (oM hH73 Z ?_)))))))))))
     by_cases hc76 : ((nth (Sf.lst m l.length) (i60 : Int)).2) ≤ (((q : Int) + 1) - 1)
     ·refine zB Z Z (dT hc76) (zA hH73 Z Z (zF T.yU Z (cw (n := 5) Z Z)) (zB Z Z (dT hc76) (zA hH73 Z Z (xJ Z Z) (zB Z Z (dT hc76) (oM hH73 Z ?_)))))
      by_cases hc77 : 0 < (old : Int)
      ·refine zE Z Z (dT hc77) Z (zE Z Z (dT hc77) Z (zE Z Z (dT hc77) Z (zB Z Z (dT hc76) (zA hH73 Z Z (zR Z (dT hc77) Z) (zA hH73 Z Z (zR Z (dT hc76) Z) (zt (zO Z Z (region (zA hH73 Z Z (zF T.yU Z (cw (n := 4) Z Z)) (zA hH73 Z Z (zX Z Z om) (zU (n := 4) (j := 0) Z Z hH73 Z T.sz3 Z Z Z (by rfl) (fun w78 hH79 => (zD (yB ?_))))))))))))))
       have hH80 := (hH79.sub (sK (sC sR)))
       exact ⟨_, ⟨_, ⟨Z, trivial⟩, Z⟩, (Heap.xA (n := 3) hH80 Z (by first | exact congrArg (fun z => [Value.int .i64 z]) (Sf.lost_t hlt (by simp [Sf.inG]; omega)) | exact congrArg (fun z => [Value.int .i64 z]) (Sf.lost_f hlt (by simp [Sf.inG]; omega))))⟩
      refine zB Z Z (dF hc77) (zA hH73 Z Z (zJ T.XW Z) (zB Z Z (dF hc77) (zA hH73 Z Z (zF T.yU Z (cw (n := 1) Z Z)) (zB Z Z (dF hc77) (zA hH73 Z Z (vQ Z Z) (zB Z Z (dT hc76) (zA hH73 Z Z (zT Z (dF hc77) Z) (zA hH73 Z Z (zR Z (dT hc76) Z) (zt ?_)))))))))
      by_cases hc81 : 0 ≤ ((nth (Sf.lst m l.length) (i60 : Int)).1)
      ·refine zO Z (dT hc81) (region (zA hH73 Z Z (zF T.yU Z (cw (n := 4) Z Z)) (zA hH73 Z Z (zX Z Z om) (zU (n := 4) (j := 0) Z Z hH73 Z T.sz3 Z Z Z (by rfl) (fun w82 hH83 => (zD (yB ?_)))))))
       have hH84 := (hH83.sub (sK (sC sR)))
       exact ⟨_, ⟨_, ⟨Z, trivial⟩, Z⟩, (Heap.xA (n := 3) hH84 Z (by first | exact congrArg (fun z => [Value.int .i64 z]) (Sf.lost_t hlt (by simp [Sf.inG]; omega)) | exact congrArg (fun z => [Value.int .i64 z]) (Sf.lost_f hlt (by simp [Sf.inG]; omega))))⟩
      refine zM Z (dF hc81) (skip (yB ?_))
      have hH85 := (hH73.sub (sK (sC sR)))
      exact ⟨_, ⟨_, ⟨Z, trivial⟩, Z⟩, (Heap.xA (n := 3) hH85 Z (by first | exact congrArg (fun z => [Value.int .i64 z]) (Sf.lost_t hlt (by simp [Sf.inG]; omega)) | exact congrArg (fun z => [Value.int .i64 z]) (Sf.lost_f hlt (by simp [Sf.inG]; omega))))⟩
     refine zE Z Z (dF hc76) Z (zE Z Z (dF hc76) Z (zE Z Z (dF hc76) Z (xE Z Z Z (xE Z Z Z (xE Z Z Z (zE Z Z (dF hc76) Z (zA hH73 Z Z (zT Z (dF hc76) Z) (zt (zM Z Z (skip (yB ?_)))))))))))
     have hH86 := (hH73.sub (sK (sC sR)))
     exact ⟨_, ⟨_, ⟨Z, trivial⟩, Z⟩, (Heap.xA (n := 3) hH86 Z (by first | exact congrArg (fun z => [Value.int .i64 z]) (Sf.lost_t hlt (by simp [Sf.inG]; omega)) | exact congrArg (fun z => [Value.int .i64 z]) (Sf.lost_f hlt (by simp [Sf.inG]; omega))))⟩
    refine zE Z Z (dF hc75) Z (zE Z Z (dF hc75) Z (zE Z Z (dF hc75) Z (zE Z Z (dF hc75) Z (zE Z Z (dF hc75) Z (zA hH73 Z Z (zT Z (dF hc75) Z) (oM hH73 Z (zE Z Z Z Z (zE Z Z Z Z (zE Z Z Z Z (xE Z Z Z (xE Z Z Z (xE Z Z Z (zE Z Z Z Z (zA hH73 Z Z (zT Z Z Z) (zt (zM Z Z (skip (yB ?_))))))))))))))))))
    have hH87 := (hH73.sub (sK (sC sR)))
    exact ⟨_, ⟨_, ⟨Z, trivial⟩, Z⟩, (Heap.xA (n := 3) hH87 Z (by first | exact congrArg (fun z => [Value.int .i64 z]) (Sf.lost_t hlt (by simp [Sf.inG]; omega)) | exact congrArg (fun z => [Value.int .i64 z]) (Sf.lost_f hlt (by simp [Sf.inG]; omega))))⟩
   ·obtain ⟨rfl, _⟩ := hI
    have hH88 := (show Heap (_ :: (_ ++ _)) _ from hH64).mark
    have hle := Sf.lost_le (ps := (Sf.lst m l.length)) (A := (Sf.tmP room l.length (Sf.lst m l.length) q old).1) (last := q + 1) (old := old) (i := (((Sf.lst m l.length).map Sf.kvS)).length) hok3
    refine yB (zP (seq (zr (zA hH88 Z Z (zF T.yU Z (cw (n := 3) Z Z)) (oM hH88 Z (zA hH88 Z Z (uH Z Z) (zt ?_)))))))
    by_cases hc89 : ((q : Int) + 1) ≤ (l.length : Int)
    ·refine zO Z (dT hc89) (uY (fun w' => Heap ([⟨lo54, hi55, Bx c50 76 [.pointer (some ⟨bb, 0, none⟩)]⟩, bx b45 3 [(.int .i64 (Sf.lostTo (Sf.lst m l.length) (Sf.tmP room l.length (Sf.lst m l.length) q old).1 (q + 1) old (((Sf.lst m l.length).map Sf.kvS)).length))], bx b40 3 [(.int .i64 (old : Int))], bx b6 3 [(.int .i64 ((q : Int) + 1))], ow lo_4 hi_4 3 1 encI v_4 ((Sf.tmP room l.length (Sf.lst m l.length) q old).1), ow lo_5 hi_5 3 1 encI v_5 ((Sf.tmP room l.length (Sf.lst m l.length) q old).2), base w] ++ (D59 :: Ds).map markItem) w') [8] T.mixed (fun w90 hr91 => ?_))
     have hH92 := hH88.redrawn hr91
     refine vE [1, 2, 3, 4] kz  _ _ _ kz (qM Z Z Z (zL Z Z (yQ Z) (zL Z Z (zJ T.vX Z) (zL Z Z (zJ T.Y2 Z) (zV (q6 [0, 5] kz hH92 _ _ _ kz (zL Z Z (zF T.yU Z (cw (n := 1) Z Z)) (zL Z Z (xV T.yU Z (by rfl) Z (fun _ hw => (kb.now hw (n := 6) Z))) (zV (vE [6, 7] kz  _ _ _ kz (zL Z Z (xB Z Z om) (zL Z Z (x5 (show (Sf.lostTo (Sf.lst m l.length) (Sf.tmP room l.length (Sf.lst m l.length) q old).1 (q + 1) old (((Sf.lst m l.length).map Sf.kvS)).length) + (room - 1) = (Sf.lostOf room l.length (Sf.lst m l.length) (Sf.tmP room l.length (Sf.lst m l.length) q old).1 (q + 1) old) from by unfold Sf.lostOf; rw [if_pos om, hlm]) (zX Z Z om)) ?_))))))))))))
     refine zV (qR [8] kz Z (⟨⟨_, Z, (zU (n := 1) (j := 0) Z Z hH92 Z T.sz3 Z Z Z (by rfl) (fun w93 hH94 => (zD (⟨(fun h => by cases h), (jQ kz (zP (seq (zZ (fun w' => Heap ([⟨lo54, hi55, Bx c50 76 [.pointer (some ⟨bb, 0, none⟩)]⟩, bx b45 3 [(.int .i64 (Sf.lostOf room l.length (Sf.lst m l.length) (Sf.tmP room l.length (Sf.lst m l.length) q old).1 (q + 1) old))], bx b40 3 [(.int .i64 (old : Int))], bx b6 3 [(.int .i64 ((q : Int) + 1))], ow lo_4 hi_4 3 1 encI v_4 ((Sf.tmP room l.length (Sf.lst m l.length) q old).1), ow lo_5 hi_5 3 1 encI v_5 ((Sf.tmP room l.length (Sf.lst m l.length) q old).2), base w] ++ (D59 :: Ds).map markItem) w') T.mixed (fun w95 hr96 => ?_)))))⟩))))⟩, trivial⟩))
     have hH97 := hH94.redrawn hr96
     refine zK [0, 1, 2, 3, 4, 5] kz hH97 _ _ _ kz (zL Z Z (x5 Z (zF T.yU Z (cw (n := 1) Z Z))) (qM Z Z Z (zL Z Z (zF T.yU Z (cw (n := 3) Z Z)) (zL Z Z (zS T.yV Z Z (Heap.yO T.zC hH97 (n := 4) Z).is om) (zL Z Z (zF T.yU Z (fun _ hw => Rd.at (Heap.yO T.zC hw (n := 4) Z) (i := ((q : Int) + 1)) om (j := 0) Z)) (zL Z Z (yK Z Z) (zV (zY kz (zP ?_)))))))))
     by_cases hc98 : (Sf.lostOf room l.length (Sf.lst m l.length) (Sf.tmP room l.length (Sf.lst m l.length) q old).1 (q + 1) old) < (nth ((Sf.tmP room l.length (Sf.lst m l.length) q old).1) ((q : Int) + 1))
     ·have hlt5 := of_decide_eq_true (decide_eq_true hc98)
      refine zO Z (dT hc98) (zZ (fun w' => Heap ([⟨lo54, hi55, Bx c50 76 [.pointer (some ⟨bb, 0, none⟩)]⟩, bx b45 3 [(.int .i64 (Sf.lostOf room l.length (Sf.lst m l.length) (Sf.tmP room l.length (Sf.lst m l.length) q old).1 (q + 1) old))], bx b40 3 [(.int .i64 (old : Int))], bx b6 3 [(.int .i64 ((q : Int) + 1))], base w] ++ (D59 :: Ds).map markItem) w') T.mixed (fun w99 hr100 => ?_))
      have hH101 := hH97.redrawn hr100
      refine zK [0, 1, 2, 3, 4, 5, 6] kz (hH101.sub (sK (sK (sK (sK (sC (sC sR))))))) _ _ _ kz (qM Z Z Z (zL Z Z (zF T.yU Z (cw (n := 3) Z Z)) (qM Z Z Z (zL Z Z (zF T.yU Z (cw (n := 3) Z Z)) (zL Z Z (x5 Z (zF T.yU Z (cw (n := 1) Z Z))) (zL Z Z (zF T.yU Z (cw (n := 2) Z Z)) (zL Z Z (zS T.yV Z Z (Heap.yO T.zC hH101 (n := 4) Z).is om) (zV (z1 7 kz Z (vC (n := 4) (i := ((q : Int) + 1)) (k := 0) (us := [(.int .i64 (Sf.lostOf room l.length (Sf.lst m l.length) (Sf.tmP room l.length (Sf.lst m l.length) q old).1 (q + 1) old))]) (z := (Sf.lostOf room l.length (Sf.lst m l.length) (Sf.tmP room l.length (Sf.lst m l.length) q old).1 (q + 1) old)) T.zC Z Z hH101 Z om T.sz3 Z Z Z (Nat.le_of_ble_eq_true Z) (fun w102 hH103 => (zD (⟨(hH103.sub (sK (sK (sK (sK (sC (sC sR))))))), (zK [8] kz (hH103.sub (sK (sK (sK (sK (sC (sC sR))))))) _ _ _ kz (zL Z Z (zS T.yV Z Z (Heap.yO T.zC hH103 (n := 5) Z).is om) (zV (z1 9 kz Z (vC (n := 5) (i := ((q : Int) + 1)) (k := 0) (us := [(.int .i64 (old : Int))]) (z := (old : Int)) T.zC Z Z hH103 Z om T.sz3 Z Z Z (Nat.le_of_ble_eq_true Z) (fun w104 hH105 => (zD (⟨(hH105.sub (sK (sK (sK (sK (sC (sC sR))))))), ?_⟩))))))))⟩)))))))))))))
      refine zY kz (yB (zP (region (zA hH105 Z Z (zX Z Z om) (oM hH105 Z (zD ?_))))))
      have hH106 := (hH105.sub (sC (sC (sC sR))))
      refine yY (old + 1, (D59 :: Ds), v_4, lo_4, hi_4, v_5, lo_5, hi_5) (uC Z (uC Z (uC Z (uC Z (uC Z (uC Z (uC Z (uC Z (Sub.nil _))))))))) ?_ ?_
      ·exact ⟨(Heap.y5 (n := 2) (Heap.y5 (n := 1) hH106 Z (by first | exact Sf.tmP_t1 hlt5 | exact congrArg Prod.fst (Sf.tmP_f hnl5))) Z (by first | exact Sf.tmP_t2 hlt5 | exact congrArg Prod.snd (Sf.tmP_f hnl5))), by omega⟩
      ·first | (dsimp only; omega) | (show _ < _; omega)
     have hnl5 := of_decide_eq_false (decide_eq_false hc98)
     refine zM Z (dF hc98) (skip (yB (zP (region (zA hH97 Z Z (zX Z Z om) (oM hH97 Z (zD ?_)))))))
     have hH107 := (hH97.sub (sC (sC (sC sR))))
     refine yY (old + 1, (D59 :: Ds), v_4, lo_4, hi_4, v_5, lo_5, hi_5) (uC Z (uC Z (uC Z (uC Z (uC Z (uC Z (uC Z (uC Z (Sub.nil _))))))))) ?_ ?_
     ·exact ⟨(Heap.y5 (n := 2) (Heap.y5 (n := 1) hH107 Z (by first | exact Sf.tmP_t1 hlt5 | exact congrArg Prod.fst (Sf.tmP_f hnl5))) Z (by first | exact Sf.tmP_t2 hlt5 | exact congrArg Prod.snd (Sf.tmP_f hnl5))), by omega⟩
     ·first | (dsimp only; omega) | (show _ < _; omega)
    refine zM Z (dF hc89) (skip (zP (seq (zZ (fun w' => Heap ([⟨lo54, hi55, Bx c50 76 [.pointer (some ⟨bb, 0, none⟩)]⟩, bx b45 3 [(.int .i64 (Sf.lostTo (Sf.lst m l.length) (Sf.tmP room l.length (Sf.lst m l.length) q old).1 (q + 1) old (((Sf.lst m l.length).map Sf.kvS)).length))], bx b40 3 [(.int .i64 (old : Int))], bx b6 3 [(.int .i64 ((q : Int) + 1))], ow lo_4 hi_4 3 1 encI v_4 ((Sf.tmP room l.length (Sf.lst m l.length) q old).1), ow lo_5 hi_5 3 1 encI v_5 ((Sf.tmP room l.length (Sf.lst m l.length) q old).2), base w] ++ (D59 :: Ds).map markItem) w') T.mixed (fun w108 hr109 => ?_)))))
    have hH110 := hH88.redrawn hr109
    refine zK [0, 1, 2, 3, 4, 5] kz hH110 _ _ _ kz (zL Z Z (x5 (show (Sf.lostTo (Sf.lst m l.length) (Sf.tmP room l.length (Sf.lst m l.length) q old).1 (q + 1) old (((Sf.lst m l.length).map Sf.kvS)).length) = (Sf.lostOf room l.length (Sf.lst m l.length) (Sf.tmP room l.length (Sf.lst m l.length) q old).1 (q + 1) old) from by unfold Sf.lostOf; rw [if_neg om, hlm]; omega) (zF T.yU Z (cw (n := 1) Z Z))) ?_)
    refine qM Z Z Z (zL Z Z (zF T.yU Z (cw (n := 3) Z Z)) (zL Z Z (zS T.yV Z Z (Heap.yO T.zC hH110 (n := 4) Z).is om) (zL Z Z (zF T.yU Z (fun _ hw => Rd.at (Heap.yO T.zC hw (n := 4) Z) (i := ((q : Int) + 1)) om (j := 0) Z)) (zL Z Z (yK Z Z) (zV (zY kz (zP ?_)))))))
    by_cases hc111 : (Sf.lostOf room l.length (Sf.lst m l.length) (Sf.tmP room l.length (Sf.lst m l.length) q old).1 (q + 1) old) < (nth ((Sf.tmP room l.length (Sf.lst m l.length) q old).1) ((q : Int) + 1))
    ·have hlt5 := of_decide_eq_true (decide_eq_true hc111)
     refine zO Z (dT hc111) (zZ (fun w' => Heap ([⟨lo54, hi55, Bx c50 76 [.pointer (some ⟨bb, 0, none⟩)]⟩, bx b45 3 [(.int .i64 (Sf.lostTo (Sf.lst m l.length) (Sf.tmP room l.length (Sf.lst m l.length) q old).1 (q + 1) old (((Sf.lst m l.length).map Sf.kvS)).length))], bx b40 3 [(.int .i64 (old : Int))], bx b6 3 [(.int .i64 ((q : Int) + 1))], base w] ++ (D59 :: Ds).map markItem) w') T.mixed (fun w112 hr113 => ?_))
     have hH114 := hH110.redrawn hr113
     refine zK [0, 1, 2, 3, 4, 5, 6] kz (hH114.sub (sK (sK (sK (sK (sC (sC sR))))))) _ _ _ kz (qM Z Z Z (zL Z Z (zF T.yU Z (cw (n := 3) Z Z)) (qM Z Z Z (zL Z Z (zF T.yU Z (cw (n := 3) Z Z)) (zL Z Z (x5 (show (Sf.lostTo (Sf.lst m l.length) (Sf.tmP room l.length (Sf.lst m l.length) q old).1 (q + 1) old (((Sf.lst m l.length).map Sf.kvS)).length) = (Sf.lostOf room l.length (Sf.lst m l.length) (Sf.tmP room l.length (Sf.lst m l.length) q old).1 (q + 1) old) from by unfold Sf.lostOf; rw [if_neg om, hlm]; omega) (zF T.yU Z (cw (n := 1) Z Z))) ?_)))))
     refine zL Z Z (zF T.yU Z (cw (n := 2) Z Z)) (zL Z Z (zS T.yV Z Z (Heap.yO T.zC hH114 (n := 4) Z).is om) (zV (z1 7 kz Z (vC (n := 4) (i := ((q : Int) + 1)) (k := 0) (us := [(.int .i64 (Sf.lostOf room l.length (Sf.lst m l.length) (Sf.tmP room l.length (Sf.lst m l.length) q old).1 (q + 1) old))]) (z := (Sf.lostOf room l.length (Sf.lst m l.length) (Sf.tmP room l.length (Sf.lst m l.length) q old).1 (q + 1) old)) T.zC Z Z hH114 Z om T.sz3 Z Z Z (Nat.le_of_ble_eq_true Z) (fun w115 hH116 => (zD (⟨(hH116.sub (sK (sK (sK (sK (sC (sC sR))))))), (zK [8] kz (hH116.sub (sK (sK (sK (sK (sC (sC sR))))))) _ _ _ kz (zL Z Z (zS T.yV Z Z (Heap.yO T.zC hH116 (n := 5) Z).is om) (zV (z1 9 kz Z (vC (n := 5) (i := ((q : Int) + 1)) (k := 0) (us := [(.int .i64 (old : Int))]) (z := (old : Int)) T.zC Z Z hH116 Z om T.sz3 Z Z Z (Nat.le_of_ble_eq_true Z) (fun w117 hH118 => (zD (⟨(hH118.sub (sK (sK (sK (sK (sC (sC sR))))))), (zY kz (yB (zP (region (zA hH118 Z Z (zX Z Z om) (oM hH118 Z ?_))))))⟩))))))))⟩)))))))
     refine zD ?_
     have hH119 := (hH118.sub (sC (sC (sC sR))))
     refine yY (old + 1, (D59 :: Ds), v_4, lo_4, hi_4, v_5, lo_5, hi_5) (uC Z (uC Z (uC Z (uC Z (uC Z (uC Z (uC Z (uC Z (Sub.nil _))))))))) ?_ ?_
     ·exact ⟨(Heap.y5 (n := 2) (Heap.y5 (n := 1) hH119 Z (by first | exact Sf.tmP_t1 hlt5 | exact congrArg Prod.fst (Sf.tmP_f hnl5))) Z (by first | exact Sf.tmP_t2 hlt5 | exact congrArg Prod.snd (Sf.tmP_f hnl5))), by omega⟩
     ·first | (dsimp only; omega) | (show _ < _; omega)
    have hnl5 := of_decide_eq_false (decide_eq_false hc111)
    refine zM Z (dF hc111) (skip (yB (zP (region (zA hH110 Z Z (zX Z Z om) (oM hH110 Z (zD ?_)))))))
    have hH120 := (hH110.sub (sC (sC (sC sR))))
    refine yY (old + 1, (D59 :: Ds), v_4, lo_4, hi_4, v_5, lo_5, hi_5) (uC Z (uC Z (uC Z (uC Z (uC Z (uC Z (uC Z (uC Z (Sub.nil _))))))))) ?_ ?_
    ·exact ⟨(Heap.y5 (n := 2) (Heap.y5 (n := 1) hH120 Z (by first | exact Sf.tmP_t1 hlt5 | exact congrArg Prod.fst (Sf.tmP_f hnl5))) Z (by first | exact Sf.tmP_t2 hlt5 | exact congrArg Prod.snd (Sf.tmP_f hnl5))), by omega⟩
    ·first | (dsimp only; omega) | (show _ < _; omega)
   exact hI.elim
  refine zM Z (dF hc39) (exit (yX (xF (z7 (yB (zP (seq (zr (zA hH38 Z Z (zF T.yU Z (cw (n := 0) Z Z)) (zq (yC (z := (.int .i64 0)) (fun _ => by kernel_rfl) Z Z hH38 (fun b121 w122 hH123 => (zU (n := 0) (j := 0) Z Z hH123 Z T.sz3 Z Z Z (by rfl) (fun w124 hH125 => (zq (zA hH125 Z Z (zF T.yU Z (cw (n := 0) Z Z)) (zA hH125 Z Z (zX Z Z om) (zU (n := 0) (j := 0) Z Z hH125 Z T.sz3 Z Z Z (by rfl) (fun w126 hH127 => ?_)))))))))))))))))))
  refine zD ?_
  have hH128 := (hH127.sub (sK (sC sR)))
  refine yY (q + 1, b121, Ds, v_4, lo_4, hi_4, v_5, lo_5, hi_5) (uC Z (uC Z (uC Z (uC Z (uC Z (uC Z (Sub.nil _))))))) ?_ ?_
  ·exact ⟨(Heap.xA (n := 0) (Heap.y5 (n := 2) (Heap.y5 (n := 1) hH128 Z (by rw [← Sf.tmP_done, show old = q + 1 by omega])) Z (by rw [← Sf.tmP_done, show old = q + 1 by omega])) Z (congrArg (fun z : Int => [Value.int .i64 z]) (show (q : Int) + 1 + 1 = ((q + 1 : Nat) : Int) + 1 by omega))), by omega⟩
  ·first | (dsimp only; omega) | (show _ < _; omega)
 refine zM Z (dF hc34) (exit (yX (xF (z7 (zP (seq ?_))))))
 have hqe2 : q = l.length + 1 := by omega
 have hb00 := hok.b (l.length + 1) (by omega)
 refine region (oA hH33 Z (zt (seq (seq ?_))))
 have hb0 := hok.b (l.length + 1) (by omega)
 rw [Int.natCast_succ] at hb0
 refine region (oM hH33 Z (oM hH33 Z (zA hH33 Z Z (zX Z Z om) (zA hH33 Z Z (zS T.yV Z Z (Heap.yO T.zC hH33 (n := 2) Z).is om) (zA hH33 Z Z (zF T.yU Z (fun _ hw => Rd.at (Heap.yO T.zC hw (n := 2) Z) (i := (l.length : Int) + 1) om (j := 0) Z)) (oA hH33 Z (zt (block ?_))))))))
 have hH129 := uE (enc := encI) 3 1 hH33
 refine loop (S := Nat × Int × List Int × Value × Nat × Nat) (fun (f, a, out, v_10, lo_10, hi_10) => [(11, (.int .i64 a)), (10, v_10), (2, (.slice none 0 0)), (5, v_5)]) (fun (f, a, out, v_10, lo_10, hi_10) w1 => Heap ([ow lo_10 hi_10 3 1 encI v_10 out, bx b6 3 [(.int .i64 ((q : Int) + 1))], ow lo_4 hi_4 3 1 encI v_4 ((Sf.tmO room l.length (Sf.lst m l.length) q).1), ow lo_5 hi_5 3 1 encI v_5 ((Sf.tmO room l.length (Sf.lst m l.length) q).2), base w] ++ Ds.map markItem) w1 ∧ 0 ≤ a ∧ a < (l.length : Int) + 2 ∧ a.toNat ≤ f ∧ out.length + a.toNat ≤ l.length + 2 ∧ out ++ Sf.back (Sf.tmO room l.length (Sf.lst m l.length) q).2 f a = (Sf.back (Sf.tmO room l.length (Sf.lst m l.length) q).2 (l.length + 2) (nth (Sf.tmO room l.length (Sf.lst m l.length) q).2 ((l.length : Int) + 1)))) (fun (f, a, out, v_10, lo_10, hi_10) => a.toNat) ((l.length + 2), (nth (Sf.tmO room l.length (Sf.lst m l.length) q).2 ((l.length : Int) + 1)), [], (.slice none 0 0), w32.heap.size, w32.heap.size) (uC Z (uC Z (uC Z (uC Z (Sub.nil _))))) ?_ ?_
 ·exact ⟨hH129, hb0.1, by omega, by omega, by simp only [List.length_nil]; omega, Z⟩
 rintro ⟨f, a, out, v_10, lo_10, hi_10⟩ w130 ⟨hH131, ha0, ha1, haf, hal, hout⟩
 refine seq (zr (oM hH131 Z (zA hH131 Z Z (xJ Z Z) (zt ?_))))
 by_cases hc132 : 0 < a
 ·have hnx := hok.next (a := a) (by omega) (by omega)
  refine zO Z (dT hc132) (skip (zP (seq (block (region (oM hH131 Z (oM hH131 Z (zA hH131 Z Z (xB Z Z om) (z8 T.zC [a - 1] Z (fun w => by kernel_rfl) hH131 (fun u133 lo135 hi136 w134 hH137 => (yF (n := 1) T.zC Z Z Z hH137 Z (Heap.yO T.zC hH137 (n := 0) Z) om2 (fun u138 lo140 hi141 w139 hH142 => (oA hH142 Z (zD (yB (zP (region (oM hH142 Z (oM hH142 Z (zA hH142 Z Z (zS T.yV Z Z (Heap.yO T.zC hH142 (n := 4) Z).is om) (zA hH142 Z Z (zF T.yU Z (fun _ hw => Rd.at (Heap.yO T.zC hw (n := 4) Z) (i := a) om (j := 0) Z)) (oA hH142 Z (zD ?_)))))))))))))))))))))))
  have hH143 := (hH142.sub (sC sR))
  refine yY (f - 1, nth ((Sf.tmO room l.length (Sf.lst m l.length) q).2) a, (out ++ [a - 1]), u138, lo140, hi141) (uC Z (uC Z (uC Z (uC Z (Sub.nil _))))) ?_ ?_
  ·exact ⟨hH143, hnx.1, by omega, by omega, by simp only [List.length_append, List.length_singleton]; omega, Sf.back_step om haf hout⟩
  ·first | (dsimp only; omega) | (show _ < _; omega)
 have hT : out = (Sf.back (Sf.tmO room l.length (Sf.lst m l.length) q).2 (l.length + 2) (nth (Sf.tmO room l.length (Sf.lst m l.length) q).2 ((l.length : Int) + 1))) := by have h9 := hout; rw [Sf.back_f (by omega), List.append_nil] at h9; exact h9
 refine zM Z (dF hc132) (exit (yX (xF (z7 (zP (seq ?_))))))
 by_cases hc144 : out = []
 ·have he : out = [] := ‹_›
  refine region (oM hH131 Z (zN Z Z Z hH131 (zC6 (by have h := (Heap.yO T.zC hH131 (n := 0) rfl); rwa [he] at h)) (fun w145 hH146 => (zs (oM hH146 Z (oA hH146 Z (zt (ret ?_))))))))
  have hH147 := (hH146.sub (sK (sC (sC (sC sR)))))
  refine kS (H := [ow lo_10 hi_10 3 1 encI v_10 out]) Ds (hH147.front (n := 1) Z) (fun w' hf => (yN Z (rt Z))) (fun w' hf => ?_)
  have h8 : Rd encI 1 v_10 out w' := Heap.yO T.zC hf (n := 0) rfl
  show Rd encI 1 v_10 (Sf.tm room l.length (Sf.lst m l.length)) w'
  rw [Sf.tm, ← hqe2, ← hT, he]; rwa [he] at h8
 have hne : ¬ out = [] := ‹_›
 refine region (oM hH131 Z ?_)
 obtain ⟨g148, cap149, ev150, hc151, ec152, hin153⟩ := Ow.cut (q := 0) (show Ow _ _ _ _ _ _ _ _ from hH131.get (n := 0) rfl) (List.length_pos_iff.2 hne)
 refine x7 (g := g148) (n := 0) Z Z Z hH131 Z hin153 ((show FnM _ _ [v_10].toArray _ _ _ from by rw [ev150]; exact zCe (off := 0) (m := out.length) (n := out.length) (cap := cap149) (xs := out) (by have h := Heap.own hH131 (n := 0) rfl; rwa [ev150] at h) om om rfl om)) (fun u156 w154 hH155 hv157 => ?_)
 have hH158 := Heap.weaken hH155 (n := 0) Z (φ := fun w' => Rd encI 1 v_10 out.reverse w') (fun w' h => by rw [ev150]; simpa using h)
 refine zs (oM hH158 Z (oA hH158 Z (zt (ret ?_))))
 have hH159 := (hH158.sub (sK (sC (sC (sC sR)))))
 refine kS (H := [⟨lo_10, hi_10, fun w' => Rd encI 1 v_10 out.reverse w'⟩]) Ds (hH159.front (n := 1) Z) (fun w' hf => (yN Z (rt Z))) (fun w' hf => ?_)
 have h8 : Rd encI 1 v_10 out.reverse w' := hf.get (n := 0) rfl
 show Rd encI 1 v_10 (Sf.tm room l.length (Sf.lst m l.length)) w'
 rw [Sf.tm, ← hqe2, ← hT]; exact h8
end Go.Fip
namespace Go.Fip
open Go.Proofs Go.RowKit
theorem zEl {bb mb : Nat} {room : Int} {v : Value} {C : List Int} {w : World} (kb : Bx bb 148 (seg [.int .i64 room, v] C [.map (some mb)]) w) (hC : C.length = 9) {l : List Int} (h0 : Rd encI 1 v l w) (hn : l.length ≤ 16) {m : Sf.Mm} (hm : Mp Sf.kvS Sf.vvI mb m w) (hw : ∀ x ∈ l, 1 ≤ x ∧ x ≤ 8) {want : Int}  :
  Fn Tryz.prog 124 [(.pointer (some ⟨bb, 0, none⟩)), (.int .i64 want)].toArray w (fun u _ => u = .int .i64 (Sf.dp l (Sf.lst m l.length) want)) := by
 refine fz Tryz.func124 Z kz Z Z (fun hH => ?_)
 have hll := Sf.lst_len (m := m) l.length hn
 refine zr (yW Z Z Z hH (fun b1 w2 hH3 => (yW Z Z Z hH3 (fun b4 w5 hH6 => (yC (z := (.int .i64 0)) (fun _ => by kernel_rfl) Z Z hH6 (fun b7 w8 hH9 => (zt (seq (zr (zA hH9 Z Z (zF T.W6 Z (cw (n := 2) Z Z)) (y2 Z Z Z hH9 (zBn) (fun u13 w11 lo14 hi15 hH12 hv16 => ?_))))))))))))
 obtain ⟨c10, hu, -⟩ := hv16
 subst hu
 have hH17 := Heap.zBl hH12 (n := 0) Z
 refine zt (block (rangeFunc (xs := ((Sf.lst m l.length).map Sf.kvS)) Z (JX (bb := bb) (mb := mb) (room := room) (v := v) (C := C) (l := l) (m := m) hC hn) Z hH17 (fun i H => H = [⟨lo14, hi15, Bx c10 76 [.pointer (some ⟨bb, 0, none⟩)]⟩, bx b7 3 [(.int .i64 0)], bx b4 3 [(.int .i64 want)], bx b1 76 [(.pointer (some ⟨bb, 0, none⟩))], base w] ∧ ∀ j, j < i → ¬ (nth (Sf.lst m l.length) (j : Int)).2 = want) (fun c H => ∃ a : Int, c = .ret ∧ H = [⟨lo14, hi15, Bx c10 76 [.pointer (some ⟨bb, 0, none⟩)]⟩, bx b7 3 [(.int .i64 a)], bx b4 3 [(.int .i64 want)], bx b1 76 [(.pointer (some ⟨bb, 0, none⟩))], base w] ∧ a = (Sf.dp l (Sf.lst m l.length) want)) ⟨Z, S.all_zero⟩ (fun i H w hI hw => ?_) (fun l18 D19 i20 x21 H w23 rc hx22 hI hH24 => ?_) (fun D19 H w23 hI hH24 => ?_) (fun D19 c H w23 hI hH24 => ?_)))
 ·obtain ⟨rfl, _⟩ := hI
  exact (show BW c10 bb mb room v C m l _ from ⟨hw.get (n := 0) Z, kb.now hw (n := 4) Z, hm.now hw (n := 4) Z, h0.now hw (n := 4) Z⟩)
 ·obtain ⟨rfl, hall⟩ := hI
  obtain ⟨hlt, hxe⟩ := j5 hx22
  subst hxe
  obtain ⟨hp1, hp2, hp3⟩ := Sf.lst_nth hlt
  have hcl : (Sf.cutL l (nth (Sf.lst m l.length) (i20 : Int))).length ≤ l.length := by unfold Sf.cutL; rw [List.length_drop, List.length_take]; omega
  have hce : (Sf.cutL l (nth (Sf.lst m l.length) (i20 : Int))).length = ((l.take ((nth (Sf.lst m l.length) (i20 : Int))).2.toNat).drop ((nth (Sf.lst m l.length) (i20 : Int))).1.toNat).length := rfl
  refine region (yC (z := (.agg #[(.int .i64 0), (.int .i64 0)])) (fun _ => by kernel_rfl) Z Z hH24 (fun b27 w28 hH29 => (zU (n := 0) (j := 0) Z Z hH29 Z T.GB Z Z Z (by rfl) (fun w30 hH31 => (zD ?_)))))
  have hH34 := hH31.front (n := 1) Z
  refine ⟨_, hH34, fun w32 hH33 => (block (seq (zr (zA hH33 Z Z (zJ T.ZF Z) (zA hH33 Z Z (zF T.yU Z (cw (n := 1) Z Z)) (zA hH33 Z Z (zF T.yU Z (cw (n := 5) Z Z)) (zA hH33 Z Z (yH Z Z) (zt ?_))))))))⟩
  by_cases hc35 : ((nth (Sf.lst m l.length) (i20 : Int)).2) = want
  ·have heq : ((nth (Sf.lst m l.length) (i20 : Int))).2 = want := by have hq := (zH hc35); simpa using hq
   refine zM Z (zH hc35) (skip (zu (yC (z := (.agg #[(.int .i64 0), (.int .i64 0), (.int .i64 0), (.int .i64 0), (.int .i64 0), (.int .i64 0), (.int .i64 0), (.int .i64 0), (.int .i64 0)])) (fun _ => by kernel_rfl) Z Z hH33 (fun b36 w37 hH38 => (zt (seq (seq ?_)))))))
   have hH39 := Heap.xA hH38 (n := 0) Z (show [(.int .i64 0), (.int .i64 0), (.int .i64 0), (.int .i64 0), (.int .i64 0), (.int .i64 0), (.int .i64 0), (.int .i64 0), (.int .i64 0)] = (ints (List.replicate 9 0)) from Z)
   refine zZ (fun w' => Heap [bx b36 145 (ints (List.replicate 9 0)), recItem l18 { rc with state := .busy }, bx b27 212 [(.int .i64 ((nth (Sf.lst m l.length) (i20 : Int)).1)), (.int .i64 ((nth (Sf.lst m l.length) (i20 : Int)).2))], markItem D19, ⟨lo14, hi15, Bx c10 76 [.pointer (some ⟨bb, 0, none⟩)]⟩, bx b7 3 [(.int .i64 0)], bx b4 3 [(.int .i64 want)], bx b1 76 [(.pointer (some ⟨bb, 0, none⟩))], base w] w') T.mixed (fun w40 hr41 => ?_)
   have hH42 := hH39.redrawn hr41
   refine zK [0, 1, 2, 3, 4, 5, 6, 7, 8, 9, 10, 11] kz hH42 _ _ _ kz (zL Z Z (zF T.W6 Z (cw (n := 7) Z Z)) (zL Z Z (yQ Z) (zL Z Z (zJ T.vX Z) (zL Z Z (zJ T.vP Z) (zL Z Z (xV T.xK Z (by rfl) Z (fun _ hw => (kb.now hw (n := 8) Z))) (zL Z Z (zJ T.XW Z) (zL Z Z (zF T.yU Z (cw (n := 2) Z Z)) (zL Z Z (zJ T.ZF Z) (zL Z Z (zF T.yU Z (cw (n := 2) Z Z)) (zL Z Z (ZH T.yV Z Z Z (h0.now hH42 (n := 8) Z).is om) (zL Z Z (yA T.yV Z (Rd.cut (h0.now hH42 (n := 8) Z) (lo := ((nth (Sf.lst m l.length) (i20 : Int)).1).toNat) (hi := ((nth (Sf.lst m l.length) (i20 : Int)).2).toNat) om om).is) (qM Z Z Z (zV (zY kz (zP (block (loop (S := Nat) (fun k => [(30, (.int .i64 (k : Int))), (4, (.pointer (some ⟨b7, 0, none⟩))), (6, (.pointer (some ⟨b36, 0, none⟩))), (28, (cutv v 1 ((nth (Sf.lst m l.length) (i20 : Int)).1).toNat ((nth (Sf.lst m l.length) (i20 : Int)).2).toNat)), (29, (.int .i64 (((l.take ((nth (Sf.lst m l.length) (i20 : Int)).2).toNat).drop ((nth (Sf.lst m l.length) (i20 : Int)).1).toNat).length : Int)))]) (fun k w1 => Heap [bx b36 145 (ints (Sf.sn (Sf.cutL l (nth (Sf.lst m l.length) (i20 : Int))) k)), recItem l18 { rc with state := .busy }, bx b27 212 [(.int .i64 ((nth (Sf.lst m l.length) (i20 : Int)).1)), (.int .i64 ((nth (Sf.lst m l.length) (i20 : Int)).2))], markItem D19, ⟨lo14, hi15, Bx c10 76 [.pointer (some ⟨bb, 0, none⟩)]⟩, bx b7 3 [(.int .i64 0)], bx b4 3 [(.int .i64 want)], bx b1 76 [(.pointer (some ⟨bb, 0, none⟩))], base w] w1 ∧ k ≤ (Sf.cutL l (nth (Sf.lst m l.length) (i20 : Int))).length) (fun k => (Sf.cutL l (nth (Sf.lst m l.length) (i20 : Int))).length - k) (0) (uC Z (uC Z (uC Z (uC Z (uC Z (Sub.nil _)))))) ?_ ?_)))))))))))))))))
   ·exact ⟨(Heap.xA (n := 0) hH42 Z (Z)), by omega⟩
   rintro k w43 ⟨hH44, hk⟩
   refine zr (zA hH44 Z Z (yK Z Z) (zt (seq ?_)))
   by_cases hc45 : (k : Int) < (((l.take ((nth (Sf.lst m l.length) (i20 : Int)).2).toNat).drop ((nth (Sf.lst m l.length) (i20 : Int)).1).toNat).length : Int)
   ·refine zO Z (dT hc45) (skip (zP (seq (block (zr (zA hH44 Z Z (zS T.yV Z Z (Rd.cut (h0.now hH44 (n := 8) Z) (lo := ((nth (Sf.lst m l.length) (i20 : Int)).1).toNat) (hi := ((nth (Sf.lst m l.length) (i20 : Int)).2).toNat) om om).is om) (zA hH44 Z Z (zF T.yU Z (fun _ hw => Rd.at (Rd.cut (h0.now hw (n := 8) Z) (lo := ((nth (Sf.lst m l.length) (i20 : Int)).1).toNat) (hi := ((nth (Sf.lst m l.length) (i20 : Int)).2).toNat) om om) (i := (k : Int)) om (j := 0) Z)) (oA hH44 Z (zt ?_)))))))))
    have hx8 := hw (nth (Sf.cutL l (nth (Sf.lst m l.length) (i20 : Int))) (k : Int)) (by rw [yJ (by omega)]; exact List.mem_of_mem_take (List.mem_of_mem_drop (List.getElem_mem (by omega))))
    have hx9 : 1 ≤ nth ((l.take ((nth (Sf.lst m l.length) (i20 : Int))).2.toNat).drop ((nth (Sf.lst m l.length) (i20 : Int))).1.toNat) (k : Int) ∧ nth ((l.take ((nth (Sf.lst m l.length) (i20 : Int))).2.toNat).drop ((nth (Sf.lst m l.length) (i20 : Int))).1.toNat) (k : Int) ≤ 8 := hx8
    have hsl := Sf.sn_len (Sf.cutL l (nth (Sf.lst m l.length) (i20 : Int))) k
    refine region (oM hH44 Z (zA hH44 Z Z (z6 T.jZ Z Z om) (VZ (n := 0) Z Z hH44 Z T.sz3 om (fun w46 hH47 => (zD (yB (zP (region (zA hH47 Z Z (zX Z Z om) (oM hH47 Z (zD (yY (k + 1) (uC Z (uC Z (uC Z (uC Z (uC Z (Sub.nil _)))))) ?_ ?_))))))))))))
    ·exact ⟨(Heap.xA (n := 0) hH47 Z (Z)), by omega⟩
    ·first | (dsimp only; omega) | (show _ < _; omega)
   refine zM Z (dF hc45) (exit (yX (xF (z7 (zu (oA hH44 Z (zt (seq (seq ?_)))))))))
   have hsl2 := Sf.sn_len (Sf.cutL l (nth (Sf.lst m l.length) (i20 : Int))) k
   have hke : k = (Sf.cutL l (nth (Sf.lst m l.length) (i20 : Int))).length := by omega
   refine region (zA hH44 Z Z (v8 T.vS om Z (fun _ hw => Heap.xS hw (n := 0) Z)) (oM hH44 Z (zt (block (loop (S := Nat) (fun k2 => [(38, (.int .i64 (k2 : Int))), (9, (.int .i64 (Sf.sumTo (Sf.sn (Sf.cutL l (nth (Sf.lst m l.length) (i20 : Int))) k) k2))), (4, (.pointer (some ⟨b7, 0, none⟩))), (37, (ag (Sf.sn (Sf.cutL l (nth (Sf.lst m l.length) (i20 : Int))) k)))]) (fun k2 w1 => Heap [bx b36 145 (ints (Sf.sn (Sf.cutL l (nth (Sf.lst m l.length) (i20 : Int))) k)), recItem l18 { rc with state := .busy }, bx b27 212 [(.int .i64 ((nth (Sf.lst m l.length) (i20 : Int)).1)), (.int .i64 ((nth (Sf.lst m l.length) (i20 : Int)).2))], markItem D19, ⟨lo14, hi15, Bx c10 76 [.pointer (some ⟨bb, 0, none⟩)]⟩, bx b7 3 [(.int .i64 0)], bx b4 3 [(.int .i64 want)], bx b1 76 [(.pointer (some ⟨bb, 0, none⟩))], base w] w1 ∧ k2 ≤ 9 ∧ 0 ≤ Sf.sumTo (Sf.sn (Sf.cutL l (nth (Sf.lst m l.length) (i20 : Int))) k) k2 ∧ Sf.sumTo (Sf.sn (Sf.cutL l (nth (Sf.lst m l.length) (i20 : Int))) k) k2 ≤ k2) (fun k2 => 9 - k2) (0) (uC Z (uC Z (uC Z (uC Z (Sub.nil _))))) ?_ ?_)))))
   ·exact ⟨hH44, by omega, Int.le_refl _, Int.le_refl _⟩
   rintro k2 w48 ⟨hH49, hk2, hs0, hs1⟩
   refine zr (zA hH49 Z Z (yK Z Z) (zt (seq ?_)))
   by_cases hc50 : (k2 : Int) < 9
   ·refine zO Z (dT hc50) (skip (zP (seq (block (seq ?_)))))
    have hnk := Sf.sn_01 (Sf.cutL l (nth (Sf.lst m l.length) (i20 : Int))) k k2 (by omega)
    have hss : 0 ≤ Sf.sumTo (Sf.sn (Sf.cutL l (nth (Sf.lst m l.length) (i20 : Int))) k) (k2 + 1) ∧ Sf.sumTo (Sf.sn (Sf.cutL l (nth (Sf.lst m l.length) (i20 : Int))) k) (k2 + 1) ≤ ((k2 + 1 : Nat) : Int) := by show 0 ≤ Sf.sumTo _ k2 + nth _ (k2 : Int) ∧ Sf.sumTo _ k2 + nth _ (k2 : Int) ≤ _; omega
    refine region (zA hH49 Z Z (KO T.jZ T.yU Z Z (Sf.sn_len _ _) om) (oA hH49 Z (zq (oM hH49 Z (oM hH49 Z (zA hH49 Z Z (zX Z Z om) (oA hH49 Z (zD (yB (zP (region (zA hH49 Z Z (zX Z Z om) (oM hH49 Z (zD (yY (k2 + 1) (uC Z (uC Z (uC Z (uC Z (Sub.nil _))))) ?_ ?_)))))))))))))))
    ·exact ⟨hH49, by omega, hss⟩
    ·first | (dsimp only; omega) | (show _ < _; omega)
   refine zM Z (dF hc50) (exit (yX (xF (z7 (zP (seq ?_))))))
   have hk9 : k2 = 9 := by omega
   refine region (oM hH49 Z (zU (n := 5) (j := 0) Z Z hH49 Z T.sz3 Z Z Z (by rfl) (fun w51 hH52 => (zt (ret (yD ?_))))))
   have hH53 := (hH52.sub (sC (sK (sC sR))))
   exact ⟨_, ⟨_, ⟨(Sf.sumTo (Sf.sn (Sf.cutL l (nth (Sf.lst m l.length) (i20 : Int))) k) k2), Z, Z, by rw [hk9, hke]; exact Sf.dp_hit hlt heq hall⟩, Z⟩, hH53⟩
  have hne : ¬ ((nth (Sf.lst m l.length) (i20 : Int))).2 = want := by have hq := (zG hc35); simpa using hq
  refine zO Z (zG hc35) (exit (yX (z7 ?_)))
  have hH54 := (hH33.sub (sK (sC sR)))
  exact ⟨_, ⟨_, ⟨Z, S.all_snoc hall hne⟩, Z⟩, hH54⟩
 ·obtain ⟨rfl, hall⟩ := hI
  have hH55 := hH24.perm (List.perm_append_comm (l₁ := [_]))
  refine yB (zu (zU (n := 1) (j := 0) Z Z hH55 Z T.sz3 Z Z Z (by rfl) (fun w56 hH57 => (zt (ret ?_)))))
  have hH58 := (hH57.sub (sC (sK (sC (sC sR)))))
  refine kS (H := [bx b7 3 [(.int .i64 0)]]) [D19] (hH58.front (n := 1) Z) (fun w' hf => (yN Z (rv1 Z T.yU (yM (Heap.xS hf (n := 1) Z) Z)))) (fun w' hf => ?_)
  first | (rw [ha]; done) | exact congrArg (Value.int .i64) (Sf.dp_miss (fun j hj => hall j (by rw [List.length_map]; exact hj)))
 obtain ⟨a, rfl, rfl, ha⟩ := hI
 have hH59 := hH24.perm (List.perm_append_comm (l₁ := [_]))
 refine ret (yD (z2 ?_))
 have hH60 := (hH59.sub (sC (sK (sC (sC sR)))))
 refine kS (H := [bx b7 3 [(.int .i64 a)]]) [D19] (hH60.front (n := 1) Z) (fun w' hf => (yN Z (rv1 Z T.yU (yM (Heap.xS hf (n := 1) Z) Z)))) (fun w' hf => ?_)
 first | (rw [ha]; done) | exact congrArg (Value.int .i64) (Sf.dp_miss (fun j hj => hall j (by rw [List.length_map]; exact hj)))
end Go.Fip
namespace Go.Fip
open Go.RowKit
def bodyQK (P : Program) (fn : Func) (N : Nat) (w0 : World) (g : Nat) (R : Value → World → Prop) : Post
  | .normal, ds, env, w | .ret, ds, env, w => ∃ (Ds : List Nat) (φ : World → Prop) (H : List Item) (v : Value), ds = Ds.map isMark ∧ Heap (Ds.map markItem ++ ⟨g, g + 1, φ⟩ :: restL w0 g :: restR w0 g :: H) w ∧
      (∀ w', Heap (⟨g, g + 1, φ⟩ :: restL w0 g :: restR w0 g :: H) w' → Results P fn N ds env w' v) ∧ ∀ w', φ w' → R v w'
  | _, _, _, _ => False
theorem finK {P : Program} {fn : Func} {N g : Nat} {w0 w : World} {φ : World → Prop} {R : Value → World → Prop} {env : Env} {v : Value} (Ds : List Nat) (hH : Heap (⟨g, g + 1, φ⟩ :: restL w0 g :: restR w0 g :: Ds.map markItem) w)
  (hres : ∀ w', Results P fn N (Ds.map isMark) env w' v) (hR : ∀ w', φ w' → R v w') : bodyQK P fn N w0 g R .ret (Ds.map isMark) env w := by
 refine ⟨Ds, φ, [], v, rfl, hH.perm ?_, fun w' _ => hres w', hR⟩
 exact (List.perm_append_comm (l₁ := [_, _, _]))
theorem jM {P : Program} {fn : Func} {w0 : World} {g : Nat} {R : Value → World → Prop} {v : Value} {φ : World → Prop} {H : List Item} (tmps : Array Value)
  (hres : ∀ w', Heap (⟨g, g + 1, φ⟩ :: restL w0 g :: restR w0 g :: H) w' → (results fn tmps).run P w' = .ok v w') (hR : ∀ w', φ w' → R v w') : ∀ (Ds : List Nat) (w : World),
  Heap (Ds.map markItem ++ ⟨g, g + 1, φ⟩ :: restL w0 g :: restR w0 g :: H) w →
  LeavesInM Fence.wide 0 P fn tmps (fun e w' => ∃ v, e = .returned v ∧ Off g (g + 1) w0 w' ∧ ∀ w'', Agree g (g + 1) w' w'' → R v w'') (Ds.map isMark) .returning w
 | [], w, hH => by
  have hL : Agree 0 g w0 w := hH.get (n := 1) rfl
  have hRr : Agree (g + 1) w0.heap.size w0 w := hH.get (n := 2) rfl
  refine ⟨v, hres w hH, v, rfl, ⟨hL.os, hL.tape, hL.output, hL.size, fun k hk hne => ?_⟩, fun w'' ha => hR w'' ((hH.okAt (n := 0) rfl).2.2 w'' ha)⟩
  rcases Nat.lt_or_ge k g with h1 | h1
  ·exact hL.block k (Nat.zero_le _) h1
  ·exact hRr.block k (by omega) hk
 | D :: Ds, w, hH => by
  have hD : w.heap[D]? = some (.deferred (some [])) := hH.get (n := 0) rfl
  have hlt : D < w.heap.size := (Array.getElem?_eq_some_iff.1 hD).1
  refine ⟨by simp, .inl ⟨D, _, rfl, run_takeDeferred hD, ?_⟩⟩
  have h0 : Heap (Ds.map markItem ++ ⟨g, g + 1, φ⟩ :: restL w0 g :: restR w0 g :: H) (w.putObj D (.deferred none)) := by
   have := hH.set (n := 0) (i := markItem D) (j := ⟨D, D + 1, fun _ => True⟩) (w' := w.putObj D (.deferred none)) rfl (vZ w D _) (.inl ⟨Nat.le_refl _, Nat.le_refl _⟩) ⟨by simp, by simp; omega, fun _ _ => trivial⟩
   exact this.sub (List.sublist_cons_self _ _)
  exact jM tmps hres hR Ds _ h0
theorem zB8 {P : Program} {f : FuncId} {fn : Func} {c : Code} {args : List Value} {w : World} {g : Nat} {φ : World → Prop} {R : Value → World → Prop} {N : Nat}
    (hf : P.funcs[f]? = some fn) (hb : fn.body = some c) (hen : ∀ (aS0 : Array Value) (w' : World), (callFunc f aS0).run P w' = .ok (.enter f aS0) w')
    (hN : fn.ntmps = N) (hargs : Nat.ble args.length N = true) (hrow : (⟨g, g + 1, φ⟩ : Item).ok w)
    (h : Heap [⟨g, g + 1, φ⟩, restL w g, restR w g] w → Holds none P N c [] (argEnv 0 args) w (bodyQK P fn N w g R)) : FnM P f args.toArray w g R := by
  have hlt : g + 1 ≤ w.heap.size := hrow.2.1
  have hH : Heap [⟨g, g + 1, φ⟩, restL w g, restR w g] w := by
    refine ⟨fun i hi => ?_, ?_⟩
    · simp at hi
      rcases hi with rfl | rfl | rfl
      · exact hrow
      · exact ⟨Nat.zero_le _, by show g ≤ _; omega, fun w' h => h⟩
      · exact ⟨hlt, Nat.le_refl _, fun w' h => h⟩
    · simp [Item.apart, restL, restR]
  refine ⟨hen _, callsIn_of_wp_marks hf hb trivial ?_⟩
  have hargs' : args.length ≤ N := by simpa [Nat.ble_eq] using hargs
  refine Go.wpIn_mono (h hH { tmps := args.toArray ++ Array.replicate (fn.ntmps - args.toArray.size) undef, defers := [] } ⟨by simp [hN]; omega, rfl, fun i v hi => ?_⟩) ?_
  · have h1 : args[i]? = some v := by simpa using (jH args 0 i v hi).2
    have hlt := (List.getElem?_eq_some_iff.1 h1).1
    simp only [Array.getElem?_append, List.size_toArray, hlt, if_true, List.getElem?_toArray]
    exact h1
  · rintro e a' w' ⟨ds, env', hf', hq⟩
    cases e with
    | normal =>
      obtain ⟨Ds, φ, H, v, rfl, hH, hres, hR⟩ := hq
      show LeavesInM _ _ _ _ _ _ a'.defers _ _
      rw [hf'.defers]
      exact jM a'.tmps (fun w2 h2 => hres w2 h2 a' hf') hR Ds w' hH
    | ret =>
      obtain ⟨Ds, φ, H, v, rfl, hH, hres, hR⟩ := hq
      show LeavesInM _ _ _ _ _ _ a'.defers _ _
      rw [hf'.defers]
      exact jM a'.tmps (fun w2 h2 => hres w2 h2 a' hf') hR Ds w' hH
    | exit i => exact hq.elim
    | goto i => exact hq.elim
    | panic i => exact hq.elim
    | outgrown => exact hq.elim
section
variable {K V : Type} [DecidableEq K] {kv : K → Value} {vv : V → Value}
theorem kX {g b : Nat} {w w' : World} (hL : Agree 0 g w w') (hR : Agree (g + 1) w.heap.size w w') (hne : b ≠ g) {o : Obj} (hb : w.heap[b]? = some o) : w'.heap[b]? = some o := by
 have hlt : b < w.heap.size := (Array.getElem?_eq_some_iff.1 hb).1
 rcases Nat.lt_or_ge b g with h1 | h1
 ·exact (hL.block b (Nat.zero_le _) h1).trans hb
 ·exact (hR.block b (by omega) hlt).trans hb
theorem Mp.nowM {b g : Nat} {m : List (K × V)} {w w' : World} (h : Mp kv vv b m w) (hne : b ≠ g) (hL : Agree 0 g w w') (hR : Agree (g + 1) w.heap.size w w') : Mp kv vv b m w' := by
 obtain ⟨es, clock, h1, h2⟩ := h
 exact ⟨es, clock, kX hL hR hne h1, h2⟩
theorem Rd.nowM {α : Type} {enc : α → List Value} {sz : Nat} {v : Value} {xs : List α} {b : Nat} {m : List (K × V)} {w w' : World} (h : Rd enc sz v xs w) (hb : Mp kv vv b m w) (hL : Agree 0 b w w') (hR : Agree (b + 1) w.heap.size w w') : Rd enc sz v xs w' := by
 obtain ⟨es, clock, h1, _⟩ := hb
 refine ⟨h.1, fun i x hi j u hj => ?_⟩
 have hc := h.2 i x hi j u hj
 have hne : eb v ≠ b := fun e => by
  rw [e] at hc
  simp [World.cell?, h1] at hc
 obtain ⟨o, ho⟩ := KD hc
 have h2 := kX hL hR hne ho
 rw [← hc]
 exact World.cell?_of_block (w := w) (show w'.heap[eb v]? = w.heap[eb v]? by rw [h2, ho])
theorem Bx.neMp {b t g : Nat} {cs : List Value} {m : List (K × V)} {w : World} (h : Bx b t cs w) (hm : Mp kv vv g m w) : b ≠ g := fun e => by
 obtain ⟨es, clock, h1, _⟩ := hm
 unfold Bx at h
 rw [e, h1] at h; cases h
theorem Bx.nowK {b t g : Nat} {cs : List Value} {m : List (K × V)} {w w' : World} (h : Bx b t cs w) (hm : Mp kv vv g m w) (hL : Agree 0 g w w') (hR : Agree (g + 1) w.heap.size w w') : Bx b t cs w' := kX hL hR (h.neMp hm) h
end
end Go.Fip
namespace Go.Fip
open Go.RowKit
end Go.Fip
