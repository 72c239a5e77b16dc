/- Walks, by program (wip/tools). -/
import Derived.Test.YtlekkopaeiblfaaWo
set_option linter.unusedVariables false
set_option linter.unusedSimpArgs false
set_option linter.unusedSectionVars false
set_option linter.unnecessarySimpa false
namespace Go.Fip
open Go.Proofs Go.RowKit

theorem yv_castB {P : Program} {N : Nat} {ds : List Deferred} {env : Env} {op : Op} {a b : Bool} {S : World → Prop} (h : a = b) (hy : Yv P N ds env op (.bool a) S) : Yv P N ds env op (.bool b) S := h ▸ hy
namespace S
/-- What is asked of a circle that is returned. -/
def CircOK (l : List Pr) (B U F c : List Int) : Prop := (circleError l B U F ≠ 0 → c = []) ∧ (circleError l B U F = 0 → checkCircle l B U F c = 0) ∧ c.length ≤ 2 * l.length
theorem ok_err {l : List Pr} {B U F : List Int} (h : ¬ checkOrder l B U F = 0) : CircOK l B U F [] := ⟨fun _ => rfl, fun h2 => by rw [ce1 h] at h2; exact absurd h2 h, by simp⟩
theorem ok_play {l : List Pr} {B U F : List Int} {E : Mm} (hj : Jobs l) (hO : Ord l.length B U F) (hOK : DayOK l B U F E) (hf : E.length = 2 * l.length) : circleError l B U F = 5 ∧ CircOK l B U F [] := by
  have hc := checkOrder_iff.2 ⟨hj, hO⟩
  have hs : SolP l B U F (pairsTo ((List.range (2 * l.length)).map fun w : Nat => (find (w : Int) E).getD 0 - at2 l (w : Int)) l.length) := hOK.sol hO (by omega) (pairsTo_length _ _) (fun w hw => by
    rw [at2_pairs _ hw, nth_nat (by simpa using hw)]; simp)
  have e : circleError l B U F = 5 := ce2 hc (by rw [playOf_some hj hs]; rfl)
  exact ⟨e, fun _ => rfl, fun h2 => by omega, by simp⟩
theorem ok_circ {l : List Pr} {B U F c : List Int} (hj : Jobs l) (hO : Ord l.length B U F) (h : 2 ≤ c.length ∧ c.length ≤ 2 * l.length ∧ InC l.length c ∧ Circ B U F c) : circleError l B U F = 0 ∧ CircOK l B U F c := by
  have hc := checkOrder_iff.2 ⟨hj, hO⟩
  have e : circleError l B U F = 0 := ce3 hc (by rw [playOf_none (circ_none hj (by omega) h.2.2.1 h.2.2.2)]; simp)
  exact ⟨e, fun h2 => absurd e h2, fun _ => cc5 hc (by omega) h.2.2.1 h.2.2.2, h.2.1⟩
end S
/-- What a contract says of a slice that is not empty, and of which it is not told where it lies: it lies in the item. -/
theorem Heap.rdFix {n lo hi : Nat} {u : Value} {c : List Int} {p : List Int → Prop} {H : List Item} {w : World} (hH : Heap H w) (hn : H[n]? = some ⟨lo, hi, fun w => ∃ c : List Int, Rd encI 1 u c w ∧ p c⟩) (hu : Rd encI 1 u c w) (hc : 0 < c.length) : Heap (H.set n ⟨lo, hi, Rd encI 1 u c⟩) w := by
  have hok := hH.okAt hn
  have hlt : eb u < w.heap.size := hu.lt (i := 0) (x := c[0]) (by simp [hc]) (j := 0) (u := .int .i64 c[0]) rfl
  have hin := Item.within hok (b := eb u) (o := w.heap[eb u]) (Array.getElem?_eq_getElem hlt) (fun w' h _ hx => by
    obtain ⟨c', hc', _⟩ := h
    have hl : c'.length = c.length := by
      obtain ⟨a, cp, e, _⟩ := hc'.is
      obtain ⟨a2, cp2, e2, _⟩ := hu.is
      rw [e] at e2
      simp only [Value.slice.injEq] at e2
      exact e2.2.1
    have h2 := hc'.2 0 (c'[0]'(by omega)) (by simp) 0 (.int .i64 (c'[0]'(by omega))) rfl
    simp only [World.cell?] at h2
    rw [hx] at h2
    cases h2)
  refine hH.set hn ⟨rfl, rfl, rfl, Nat.le_refl _, fun _ _ _ => rfl⟩ (.inl ⟨Nat.le_refl _, Nat.le_refl _⟩) ⟨hok.1, hok.2.1, fun w' ha => ⟨hu.1, fun i x hi j v hj => ?_⟩⟩
  exact (ha.cell (p := ⟨eb u, eo u + i * 1 + j, none⟩) hin.1 hin.2).trans (hu.2 i x hi j v hj)
theorem Heap.getRd {n lo hi : Nat} {u : Value} {c : List Int} {H : List Item} {w : World} (hH : Heap H w) (hn : H[n]? = some ⟨lo, hi, Rd encI 1 u c⟩) : Rd encI 1 u c w := hH.get hn

theorem c37 {v : Value} {js : List S.Pr} {vb vt vf : Value} {B U F : List Int} {w : World} (h0 : Rd encP 2 v js w) (hB : Rd encI 1 vb B w) (hT : Rd encI 1 vt U w) (hF : Rd encI 1 vf F w) (hn : js.length ≤ 1000000) (hBl : B.length ≤ 1000000) (hTl : U.length ≤ 1000000) (hFl : F.length ≤ 1000000)  :
    Fn Try.prog 37 [v, (.agg #[vb, vt, vf])].toArray w (fun u w => ∃ q c, u = .tuple #[q, .int .i64 (S.circleError js B U F)] ∧ Own 3 1 encI q c w ∧ S.CircOK js B U F c) := by
  refine fn_of' (args := [v, (.agg #[vb, vt, vf])]) Try.func37 rfl (ent Try.func37 (by kernel_rfl) rfl) rfl rfl (fun hH => ?_)
  refine seq ?_
  refine region ?_
  refine op_box (us := [vb, vt, vf]) rfl rfl rfl hH (fun b1 w2 hH3 => ?_)
  refine ops_y hH3 rfl rfl (yv_assign rfl) ?_
  refine ops_y hH3 rfl rfl (yv_assign rfl) ?_
  refine ops_nil ?_
  refine thn_n ?_
  refine seq ?_
  by_cases hc4 : S.checkOrder js B U F = 0
  · skip
    have hco : S.checkOrder js B U F = 0 := ‹_›
    obtain ⟨hj, hO⟩ := S.checkOrder_iff.1 hco
    have hO8 := hO
    obtain ⟨hlB, hlU, hlF, hOk⟩ := hO8
    have hl1 := hj.1
    have hl8 := hj.2.1
    refine region ?_
    refine ops_y hH3 rfl rfl (yv_move rfl) ?_
    refine ops_y hH3 rfl rfl (yv_loadA (cs := [vb, vt, vf]) T.agg41 rfl rfl (fun _ hw => Heap.cellsw hw (n := 0) rfl (k := 0) rfl)) ?_
    refine op_fn rfl rfl rfl hH3 (c72 (h0.now hH3 (n := 1) rfl) (hB.now hH3 (n := 1) rfl) (hT.now hH3 (n := 1) rfl) (hF.now hH3 (n := 1) rfl) (by omega) (by omega) (by omega) (by omega) hco) (fun u7 w5 lo8 hi9 hH6 hv10 => ?_)
    obtain ⟨d, m, E, hu, hday, hOK⟩ := hv10
    subst hu
    obtain ⟨es, clock, hents, hH11⟩ := Heap.toDay hH6 (n := 0) rfl (fun w' h => by obtain ⟨d', m', E', e, h, _⟩ := h; cases e; exact ⟨_, _, h⟩) hday
    refine ops_y hH11 rfl rfl (yv_move rfl) ?_
    refine ops_y hH11 rfl rfl (yv_extract rfl rfl) ?_
    refine ops_y hH11 rfl rfl (yv_extract rfl rfl) ?_
    refine ops_y hH11 rfl rfl (yv_assign rfl) ?_
    refine ops_y hH11 rfl rfl (yv_assign rfl) ?_
    refine ops_nil ?_
    refine thn_n ?_
    refine seq ?_
    refine block ?_
    refine seq ?_
    refine region ?_
    refine ops_y hH11 rfl rfl (yv_move rfl) ?_
    refine ops_y hH11 rfl rfl (yv_neq rfl rfl) ?_
    refine ops_y hH11 rfl rfl (yv_assign rfl) ?_
    refine ops_nil ?_
    refine thn_n ?_
    have hc12 : ¬ (¬ ((0 : Int) = 0)) := fun h => h rfl
    refine cond_f rfl (not_decide_f hc12) ?_
    refine seq ?_
    refine region ?_
    refine ops_y hH11 rfl rfl (yv_move rfl) ?_
    refine ops_y hH11 rfl rfl (yv_nilck rfl) ?_
    refine ops_y hH11 rfl rfl (yv_field T.f103_1 rfl) ?_
    refine ops_y hH11 rfl rfl (yv_load T.one101 rfl (fun _ hw => bx_cell ((Heap.dr hw (n := 0) rfl).1) rfl)) ?_
    refine ops_y hH11 rfl rfl (yv_lenMap T.m101 rfl (fun _ hw => ((DayR.day (Heap.dr hw (n := 0) rfl) hents).2))) ?_
    refine ops_y hH11 rfl rfl (yv_move rfl) ?_
    refine ops_y hH11 rfl rfl (yv_len T.sl22 rfl (h0.now hH11 (n := 2) rfl).is) ?_
    refine ops_y hH11 rfl rfl (yv_mul rfl rfl (by omega)) ?_
    refine ops_y hH11 rfl rfl (yv_eql rfl rfl) ?_
    refine ops_y hH11 rfl rfl (yv_assign rfl) ?_
    refine ops_nil ?_
    refine thn_n ?_
    by_cases hc13 : (E.length : Int) = (2 * (js.length : Int))
    · skip
      obtain ⟨hce, hcok⟩ := S.ok_play hj hO hOK (by omega)
      refine cond_t rfl (decide_eq_true hc13) ?_
      refine seq ?_
      refine region ?_
      refine ops_y hH11 rfl rfl (yv_assign rfl) ?_
      refine ops_y hH11 rfl rfl (yv_assign rfl) ?_
      refine ops_nil ?_
      refine thn_n ?_
      refine ret ?_
      refine blk_r ?_
      refine thn_r ?_
      have hH14 := (hH11.sub (List.Sublist.cons _ (List.Sublist.cons _ (List.Sublist.refl _))))
      refine fin hH14 (fun w' hf => (res2 rfl (show RV _ _ _ (.tmp 4) _ from rfl) (show RV _ _ _ (.tmp 5) _ from rfl))) (fun w' hf => ?_)
      first | (rw [S.ce1 hcn]; exact ⟨_, _, rfl, own_nil, S.ok_err hcn⟩) | (rw [hce]; exact ⟨_, _, rfl, own_nil, hcok⟩) | (rw [hce]; exact ⟨_, _, rfl, Heap.own hf (n := 0) rfl, by simpa using hcok⟩)
    · skip
      have hEl := hOK.len
      refine cond_f rfl (decide_eq_false hc13) ?_
      refine skip ?_
      refine blk_n ?_
      refine thn_n ?_
      refine seq ?_
      refine region ?_
      refine ops_y hH11 rfl rfl (yv_move rfl) ?_
      refine op_fn rfl rfl rfl hH11 (c75 (DayR.day (Heap.dr hH11 (n := 0) rfl) hents) (hB.now hH11 (n := 2) rfl) (hT.now hH11 (n := 2) rfl) (hF.now hH11 (n := 2) rfl) hj hO hOK (by omega)) (fun u17 w15 lo18 hi19 hH16 hv20 => ?_)
      obtain ⟨c21, hcr, hcp⟩ := hv20
      have hH22 := Heap.rdFix hH16 (n := 0) rfl hcr (by omega)
      obtain ⟨hce, hcok⟩ := S.ok_circ hj hO hcp
      have hcl := hcp.2.1
      refine ops_y hH22 rfl rfl (yv_assign rfl) ?_
      refine ops_nil ?_
      refine thn_n ?_
      refine seq ?_
      refine region ?_
      refine ops_y hH22 rfl rfl (yv_move rfl) ?_
      refine ops_y hH22 rfl rfl (yv_len T.sl39 rfl (Heap.getRd hH22 (n := 0) rfl).is) ?_
      refine op_make T.el39_encI (0 : Int) T.z39_encI rfl rfl rfl hH22 (by omega) (by omega) (fun u23 lo25 hi26 w24 hH27 => ?_)
      refine ops_y hH27 rfl rfl (yv_assign rfl) ?_
      refine ops_nil ?_
      refine thn_n ?_
      refine seq ?_
      refine region ?_
      refine ops_y hH27 rfl rfl (yv_move rfl) ?_
      refine ops_y hH27 rfl rfl (yv_move rfl) ?_
      refine op_copy (n := 0) T.el39_encI rfl rfl rfl hH27 rfl (Heap.getRd hH27 (n := 1) rfl) (by simp) (fun w28 hH29 => ?_)
      refine ops_nil ?_
      refine thn_n ?_
      refine seq ?_
      refine region ?_
      refine ops_y hH29 rfl rfl (yv_move rfl) ?_
      refine ops_y hH29 rfl rfl (yv_assign rfl) ?_
      refine ops_y hH29 rfl rfl (yv_assign rfl) ?_
      refine ops_nil ?_
      refine thn_n ?_
      refine ret ?_
      have hH30 := (hH29.sub (List.Sublist.cons_cons _ (List.Sublist.cons _ (List.Sublist.cons _ (List.Sublist.cons _ (List.Sublist.refl _))))))
      refine fin (hH30.front (n := 1) rfl) (fun w' hf => (res2 rfl (show RV _ _ _ (.tmp 4) _ from rfl) (show RV _ _ _ (.tmp 5) _ from rfl))) (fun w' hf => ?_)
      first | (rw [S.ce1 hcn]; exact ⟨_, _, rfl, own_nil, S.ok_err hcn⟩) | (rw [hce]; exact ⟨_, _, rfl, own_nil, hcok⟩) | (rw [hce]; exact ⟨_, _, rfl, Heap.own hf (n := 0) rfl, by simpa using hcok⟩)
  · skip
    have hcn : ¬ S.checkOrder js B U F = 0 := ‹_›
    refine region ?_
    refine ops_y hH3 rfl rfl (yv_move rfl) ?_
    refine ops_y hH3 rfl rfl (yv_loadA (cs := [vb, vt, vf]) T.agg41 rfl rfl (fun _ hw => Heap.cellsw hw (n := 0) rfl (k := 0) rfl)) ?_
    refine op_fnV rfl rfl rfl hH3 (c72n (h0.now hH3 (n := 1) rfl) (hB.now hH3 (n := 1) rfl) (hT.now hH3 (n := 1) rfl) (hF.now hH3 (n := 1) rfl) (by omega) (by omega) (by omega) (by omega) hcn) (fun w31 hH32 => ?_)
    refine ops_y hH32 rfl rfl (yv_move rfl) ?_
    refine ops_y hH32 rfl rfl (yv_extract rfl rfl) ?_
    refine ops_y hH32 rfl rfl (yv_extract rfl rfl) ?_
    refine ops_y hH32 rfl rfl (yv_assign rfl) ?_
    refine ops_y hH32 rfl rfl (yv_assign rfl) ?_
    refine ops_nil ?_
    refine thn_n ?_
    refine seq ?_
    refine block ?_
    refine seq ?_
    refine region ?_
    refine ops_y hH32 rfl rfl (yv_move rfl) ?_
    refine ops_y hH32 rfl rfl (yv_neq rfl rfl) ?_
    refine ops_y hH32 rfl rfl (yv_assign rfl) ?_
    refine ops_nil ?_
    refine thn_n ?_
    have hc33 : ¬ ((S.checkOrder js B U F) = 0) := hcn
    refine cond_t rfl (not_decide_t hc33) ?_
    refine seq ?_
    refine region ?_
    refine ops_y hH32 rfl rfl (yv_move rfl) ?_
    refine ops_y hH32 rfl rfl (yv_assign rfl) ?_
    refine ops_y hH32 rfl rfl (yv_assign rfl) ?_
    refine ops_nil ?_
    refine thn_n ?_
    refine ret ?_
    refine blk_r ?_
    refine thn_r ?_
    have hH34 := (hH32.sub (List.Sublist.cons _ (List.Sublist.refl _)))
    refine fin hH34 (fun w' hf => (res2 rfl (show RV _ _ _ (.tmp 4) _ from rfl) (show RV _ _ _ (.tmp 5) _ from rfl))) (fun w' hf => ?_)
    first | (rw [S.ce1 hcn]; exact ⟨_, _, rfl, own_nil, S.ok_err hcn⟩) | (rw [hce]; exact ⟨_, _, rfl, own_nil, hcok⟩) | (rw [hce]; exact ⟨_, _, rfl, Heap.own hf (n := 0) rfl, by simpa using hcok⟩)

theorem Heap.toOwAny {α : Type} {E sz n lo hi : Nat} {enc : α → List Value} {v : Value} {xs : List α} {φ : World → Prop} {H : List Item} {w : World} (hH : Heap H w) (hn : H[n]? = some ⟨lo, hi, φ⟩)
    (hφ : ∀ w', φ w' → ∃ ys : List α, Own E sz enc v ys w') (hown : Own E sz enc v xs w) : Heap (H.set n (ow lo hi E sz enc v xs)) w := by
  have hok := hH.okAt hn
  refine hH.set hn ⟨rfl, rfl, rfl, Nat.le_refl _, fun _ _ _ => rfl⟩ (.inl ⟨Nat.le_refl _, Nat.le_refl _⟩) (ow_ok ⟨hown, fun g hg => ?_⟩ hok.1 hok.2.1)
  by_cases hin : lo ≤ g ∧ g < hi
  · exact hin
  · exfalso
    have hlt := (hown.lt g hg).2
    obtain ⟨ys, h1⟩ := hφ _ (hok.2.2 (w.putObj g (.deferred none)) ⟨rfl, rfl, rfl, by simp, fun k a b => World.putObj_heap_other (by simp only at a b; omega)⟩)
    rcases h1.2 with ⟨hv, _⟩ | ⟨g', cap, cur, hv, _, hg', _⟩
    · rw [hv] at hg; cases hg
    · rw [hv] at hg
      simp [Value.ownBlock] at hg
      subst hg
      rw [World.putObj_heap_same hlt] at hg'
      cases hg'

theorem c42 {v : Value} {js : List S.Pr} {w : World} (h0 : Rd encP 2 v js w) (hj : S.Jobs js)  :
    Fn Try.prog 42 [v].toArray w (fun u w => ∃ q p, u = .tuple #[.int .i64 (S.shortestOf js), q, .bool true] ∧ Own 73 2 encP q p w ∧ S.plan js = (p, 0)) := by
  refine fn_of' (args := [v]) Try.func42 rfl (ent Try.func42 (by kernel_rfl) rfl) rfl rfl (fun hH => ?_)
  have hl1 := hj.1
  have hl8 := hj.2.1
  have hc0 := S.checkJobs_iff.2 hj
  obtain ⟨p, hpl, hps, hpc⟩ := S.plan_ok hj
  have hpn := hps.1
  have hsh := S.sh2 hc0
  refine seq ?_
  refine region ?_
  refine ops_y hH rfl rfl (yv_assign rfl) ?_
  refine ops_y hH rfl rfl (yv_assign rfl) ?_
  refine ops_y hH rfl rfl (yv_assign rfl) ?_
  refine ops_nil ?_
  refine thn_n ?_
  refine seq ?_
  refine region ?_
  refine ops_y hH rfl rfl (yv_move rfl) ?_
  have hev3 := c26 (h0.now hH (n := 0) rfl) (by omega)
  simp only [hsh] at hev3
  refine op_fnV rfl rfl rfl hH (hev3) (fun w1 hH2 => ?_)
  refine ops_y hH2 rfl rfl (yv_move rfl) ?_
  refine ops_y hH2 rfl rfl (yv_extract rfl rfl) ?_
  refine ops_y hH2 rfl rfl (yv_extract rfl rfl) ?_
  refine ops_y hH2 rfl rfl (yv_assign rfl) ?_
  refine ops_y hH2 rfl rfl (yv_assign rfl) ?_
  refine ops_nil ?_
  refine thn_n ?_
  refine seq ?_
  refine region ?_
  refine ops_y hH2 rfl rfl (yv_move rfl) ?_
  have hev6 := c30 (h0.now hH2 (n := 0) rfl) (by omega)
  simp only [hpl] at hev6
  refine op_fn rfl rfl rfl hH2 (hev6) (fun u7 w4 lo8 hi9 hH5 hv10 => ?_)
  obtain ⟨p12, hu, -⟩ := hv10
  subst hu
  have hH11 := Heap.tup2 hH5 (n := 0) rfl
  refine ops_y hH11 rfl rfl (yv_move rfl) ?_
  refine ops_y hH11 rfl rfl (yv_extract rfl rfl) ?_
  refine ops_y hH11 rfl rfl (yv_extract rfl rfl) ?_
  refine ops_y hH11 rfl rfl (yv_assign rfl) ?_
  refine ops_y hH11 rfl rfl (yv_assign rfl) ?_
  refine ops_nil ?_
  refine thn_n ?_
  refine seq ?_
  refine seq ?_
  refine region ?_
  refine ops_y hH11 rfl rfl (yv_move rfl) ?_
  refine ops_y hH11 rfl rfl (yv_castB rfl (yv_neq rfl rfl)) ?_
  refine ops_y hH11 rfl rfl (yv_move rfl) ?_
  refine guard_yes rfl rfl rfl ?_
  refine ops_y hH11 rfl rfl (yv_move rfl) ?_
  refine guard_yes rfl rfl rfl ?_
  refine ops_y hH11 rfl rfl (yv_castB rfl (yv_neq rfl rfl)) ?_
  refine ops_y hH11 rfl rfl (yv_pick_f rfl rfl rfl) ?_
  refine ops_nil ?_
  refine thn_n ?_
  refine cond_f rfl rfl ?_
  refine skip ?_
  refine thn_n ?_
  refine seq ?_
  refine region ?_
  refine ops_y hH11 rfl rfl (yv_move rfl) ?_
  refine ops_y hH11 rfl rfl (yv_move rfl) ?_
  have hev15 := c44 (h0.now hH11 (n := 1) rfl) (Heap.rdw T.el23_encP hH11 (n := 0) rfl) (by omega) (by omega)
  simp only [hpc, decide_true] at hev15
  refine op_fnV rfl rfl rfl hH11 (hev15) (fun w13 hH14 => ?_)
  refine ops_y hH14 rfl rfl (yv_move rfl) ?_
  refine ops_y hH14 rfl rfl (yv_extract rfl rfl) ?_
  refine ops_y hH14 rfl rfl (yv_extract rfl rfl) ?_
  refine ops_y hH14 rfl rfl (yv_assign rfl) ?_
  refine ops_y hH14 rfl rfl (yv_assign rfl) ?_
  refine ops_nil ?_
  refine thn_n ?_
  refine seq ?_
  refine region ?_
  refine ops_y hH14 rfl rfl (yv_move rfl) ?_
  refine ops_y hH14 rfl rfl (yv_move rfl) ?_
  refine ops_y hH14 rfl rfl (yv_move rfl) ?_
  refine ops_y hH14 rfl rfl (yv_move rfl) ?_
  refine guard_yes rfl rfl rfl ?_
  refine ops_y hH14 rfl rfl (yv_move rfl) ?_
  refine guard_yes rfl rfl rfl ?_
  refine ops_y hH14 rfl rfl (yv_move rfl) ?_
  refine guard_yes rfl rfl rfl ?_
  refine ops_y hH14 rfl rfl (yv_castB (decide_eq_true rfl) (yv_eql rfl rfl)) ?_
  refine ops_y hH14 rfl rfl (yv_pick_t rfl rfl rfl) ?_
  refine ops_y hH14 rfl rfl (yv_assign rfl) ?_
  refine ops_y hH14 rfl rfl (yv_assign rfl) ?_
  refine ops_y hH14 rfl rfl (yv_assign rfl) ?_
  refine ops_nil ?_
  refine thn_n ?_
  refine ret ?_
  refine fin (hH14.front (n := 1) rfl) (fun w' hf => (res3 rfl (show RV _ _ _ (.tmp 2) _ from rfl) (show RV _ _ _ (.tmp 3) _ from rfl) (show RV _ _ _ (.tmp 4) _ from rfl))) (fun w' hf => ?_)
  exact ⟨_, _, rfl, Heap.own hf (n := 0) rfl, hpl⟩

end Go.Fip
