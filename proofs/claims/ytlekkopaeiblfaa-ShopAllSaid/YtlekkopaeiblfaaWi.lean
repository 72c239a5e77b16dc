/- Walks, by program (wip/tools). -/
import Derived.Test.YtlekkopaeiblfaaWh
import Derived.Test.YtlekkopaeiblfaaSe
set_option linter.unusedVariables false
set_option linter.unusedSimpArgs false
set_option linter.unusedSectionVars false
set_option linter.unnecessarySimpa false
namespace Go.Fip
open Go.Proofs Go.RowKit

def DayR (d : Nat) (vb vt vf : Value) (m : Nat) (es : Array MapEntry) (clock : Nat) (w : World) : Prop := Bx d 103 [vb, vt, vf, .map (some m)] w ∧ w.heap[m]? = some (.map es clock)
theorem Heap.toDay {lo hi n d m : Nat} {vb vt vf : Value} {E : List (Int × Int)} {φ : World → Prop} {H : List Item} {w : World} (hH : Heap H w) (hn : H[n]? = some ⟨lo, hi, φ⟩)
    (hφ : ∀ w', φ w' → ∃ m' E', Day d vb vt vf m' E' w') (hd : Day d vb vt vf m E w) :
    ∃ es clock, Ents kvW vvI es clock E ∧ Heap (H.set n ⟨lo, hi, DayR d vb vt vf m es clock⟩) w := by
  have hok := hH.okAt hn
  obtain ⟨hbx, es, clock, hmp, h1, h2, h3, h4⟩ := hd
  have hdin := Item.within hok hbx (fun w' h _ hx => by
    obtain ⟨m', E', hb', _⟩ := hφ w' h
    unfold Bx at hb'
    rw [hb'] at hx; cases hx)
  have hne : d ≠ m := fun e => by unfold Bx at hbx; subst e; rw [hbx] at hmp; cases hmp
  have hmin := Item.within hok hmp (fun w' h hoth hx => by
    obtain ⟨m', E', hb', es', clock', hm', _⟩ := hφ w' h
    have h5 := hoth d hne
    unfold Bx at hb' hbx
    rw [hb', hbx] at h5
    cases h5
    rw [hm'] at hx; cases hx)
  refine ⟨es, clock, ⟨h1, h2, h3, h4⟩, hH.set hn ⟨rfl, rfl, rfl, Nat.le_refl _, fun _ _ _ => rfl⟩ (.inl ⟨Nat.le_refl _, Nat.le_refl _⟩) ⟨hok.1, hok.2.1, fun w' ha => ⟨?_, ?_⟩⟩⟩
  · exact (ha.block d hdin.1 hdin.2).trans hbx
  · exact (ha.block m hmin.1 hmin.2).trans hmp
theorem Heap.dr {lo hi n d m : Nat} {vb vt vf : Value} {es : Array MapEntry} {clock : Nat} {H : List Item} {w : World} (hH : Heap H w) (hn : H[n]? = some ⟨lo, hi, DayR d vb vt vf m es clock⟩) : DayR d vb vt vf m es clock w := hH.get hn
theorem DayR.day {d m : Nat} {vb vt vf : Value} {es : Array MapEntry} {clock : Nat} {E : List (Int × Int)} {w : World} (h : DayR d vb vt vf m es clock w) (he : Ents kvW vvI es clock E) : Day d vb vt vf m E w :=
  ⟨h.1, es, clock, h.2, he.views, he.nd, he.bornNd, he.born⟩

theorem c72 {v : Value} {js : List S.Pr} {vb vt vf : Value} {B U F : List Int} {w : World} (h0 : Rd encP 2 v js w) (hB : Rd encI 1 vb B w) (hT : Rd encI 1 vt U w) (hF : Rd encI 1 vf F w) (hn : js.length ≤ 1000000) (hBl : B.length ≤ 1000000) (hTl : U.length ≤ 1000000) (hFl : F.length ≤ 1000000) (hco : S.checkOrder js B U F = 0)  :
    Fn Try.prog 72 [v, (.agg #[vb, vt, vf])].toArray w (fun u w => ∃ d m E, u = .tuple #[.pointer (some ⟨d, 0, none⟩), .int .i64 0] ∧ Day d vb vt vf m E w ∧ S.DayOK js B U F E) := by
  refine fn_of' (args := [v, (.agg #[vb, vt, vf])]) Try.func72 rfl (ent Try.func72 (by kernel_rfl) rfl) rfl rfl (fun hH => ?_)
  obtain ⟨hj, hO⟩ := S.checkOrder_iff.1 hco
  refine seq ?_
  refine region ?_
  refine op_box (us := [vb, vt, vf]) rfl rfl rfl hH (fun b1 w2 hH3 => ?_)
  refine ops_y hH3 rfl rfl (yv_assign rfl) ?_
  refine ops_y hH3 rfl rfl (yv_assign rfl) ?_
  refine ops_nil ?_
  refine thn_n ?_
  refine seq ?_
  refine seq ?_
  refine region ?_
  refine ops_y hH3 rfl rfl (yv_move rfl) ?_
  refine ops_y hH3 rfl rfl (yv_loadA (cs := [vb, vt, vf]) T.agg41 rfl rfl (fun _ hw => Heap.cellsw hw (n := 0) rfl (k := 0) rfl)) ?_
  refine op_fnV rfl rfl rfl hH3 (c34 (h0.now hH3 (n := 1) rfl) (hB.now hH3 (n := 1) rfl) (hT.now hH3 (n := 1) rfl) (hF.now hH3 (n := 1) rfl) (by omega) (by omega) (by omega) (by omega)) (fun w4 hH5 => ?_)
  refine ops_y hH5 rfl rfl (yv_assign rfl) ?_
  refine ops_nil ?_
  refine thn_n ?_
  refine seq ?_
  refine region ?_
  refine ops_y hH5 rfl rfl (yv_move rfl) ?_
  refine ops_y hH5 rfl rfl (yv_neq rfl rfl) ?_
  refine ops_nil ?_
  refine thn_n ?_
  have hc6 : ¬ (¬ ((S.checkOrder js B U F) = 0)) := fun h => h hco
  refine cond_f rfl (not_decide_f hc6) ?_
  refine skip ?_
  refine thn_n ?_
  refine seq ?_
  refine region ?_
  refine ops_y hH5 rfl rfl (yv_move rfl) ?_
  refine ops_y hH5 rfl rfl (yv_loadA (cs := [vb, vt, vf]) T.agg41 rfl rfl (fun _ hw => Heap.cellsw hw (n := 0) rfl (k := 0) rfl)) ?_
  refine op_fn rfl rfl rfl hH5 (c92 (h0.now hH5 (n := 1) rfl) (hB.now hH5 (n := 1) rfl) (hT.now hH5 (n := 1) rfl) (hF.now hH5 (n := 1) rfl) hj hO) (fun u9 w7 lo10 hi11 hH8 hv12 => ?_)
  obtain ⟨d, m, E, hu, hday, hOK⟩ := hv12
  subst hu
  obtain ⟨es, clock, hents, hH13⟩ := Heap.toDay hH8 (n := 0) rfl (fun w' h => by obtain ⟨d', m', E', e, h, _⟩ := h; cases e; exact ⟨_, _, h⟩) hday
  refine ops_y hH13 rfl rfl (yv_assign rfl) ?_
  refine ops_y hH13 rfl rfl (yv_assign rfl) ?_
  refine ops_nil ?_
  refine thn_n ?_
  refine ret ?_
  have hH14 := (hH13.sub (List.Sublist.cons_cons _ (List.Sublist.cons _ (List.Sublist.refl _))))
  refine fin (hH14.front (n := 1) rfl) (fun w' hf => (res2 rfl (show RV _ _ _ (.tmp 4) _ from rfl) (show RV _ _ _ (.tmp 5) _ from rfl))) (fun w' hf => ?_)
  exact ⟨d, m, E, rfl, DayR.day (Heap.dr hf (n := 0) rfl) hents, hOK⟩

theorem c72n {v : Value} {js : List S.Pr} {vb vt vf : Value} {B U F : List Int} {w : World} (h0 : Rd encP 2 v js w) (hB : Rd encI 1 vb B w) (hT : Rd encI 1 vt U w) (hF : Rd encI 1 vf F w) (hn : js.length ≤ 1000000) (hBl : B.length ≤ 1000000) (hTl : U.length ≤ 1000000) (hFl : F.length ≤ 1000000) (hcn : ¬ S.checkOrder js B U F = 0)  :
    Fn Try.prog 72 [v, (.agg #[vb, vt, vf])].toArray w (fun u _ => u = .tuple #[.pointer none, .int .i64 (S.checkOrder js B U F)]) := by
  refine fn_of' (args := [v, (.agg #[vb, vt, vf])]) Try.func72 rfl (ent Try.func72 (by kernel_rfl) rfl) rfl rfl (fun hH => ?_)
  refine seq ?_
  refine region ?_
  refine op_box (us := [vb, vt, vf]) rfl rfl rfl hH (fun b1 w2 hH3 => ?_)
  refine ops_y hH3 rfl rfl (yv_assign rfl) ?_
  refine ops_y hH3 rfl rfl (yv_assign rfl) ?_
  refine ops_nil ?_
  refine thn_n ?_
  refine seq ?_
  refine seq ?_
  refine region ?_
  refine ops_y hH3 rfl rfl (yv_move rfl) ?_
  refine ops_y hH3 rfl rfl (yv_loadA (cs := [vb, vt, vf]) T.agg41 rfl rfl (fun _ hw => Heap.cellsw hw (n := 0) rfl (k := 0) rfl)) ?_
  refine op_fnV rfl rfl rfl hH3 (c34 (h0.now hH3 (n := 1) rfl) (hB.now hH3 (n := 1) rfl) (hT.now hH3 (n := 1) rfl) (hF.now hH3 (n := 1) rfl) (by omega) (by omega) (by omega) (by omega)) (fun w4 hH5 => ?_)
  refine ops_y hH5 rfl rfl (yv_assign rfl) ?_
  refine ops_nil ?_
  refine thn_n ?_
  refine seq ?_
  refine region ?_
  refine ops_y hH5 rfl rfl (yv_move rfl) ?_
  refine ops_y hH5 rfl rfl (yv_neq rfl rfl) ?_
  refine ops_nil ?_
  refine thn_n ?_
  have hc6 : ¬ ((S.checkOrder js B U F) = 0) := hcn
  refine cond_t rfl (not_decide_t hc6) ?_
  refine seq ?_
  refine region ?_
  refine ops_y hH5 rfl rfl (yv_move rfl) ?_
  refine ops_y hH5 rfl rfl (yv_assign rfl) ?_
  refine ops_y hH5 rfl rfl (yv_assign rfl) ?_
  refine ops_nil ?_
  refine thn_n ?_
  refine ret ?_
  refine thn_r ?_
  have hH7 := (hH5.sub (List.Sublist.cons _ (List.Sublist.refl _)))
  refine fin hH7 (fun w' hf => (res2 rfl (show RV _ _ _ (.tmp 4) _ from rfl) (show RV _ _ _ (.tmp 5) _ from rfl))) (fun w' hf => ?_)
  rfl

theorem S.set_even {O : List S.Pr} {w : Nat} {t : Int} (hw : w < 2 * O.length) (h : (w : Int) % 2 = 0) (x : Nat) : S.at2 (O.set ((w : Int) / 2).toNat (t, (nth O ((w : Int) / 2)).2)) (x : Int) = if x = w then t else S.at2 O (x : Int) := by
  have e : ((((w : Int) / 2).toNat : Nat) : Int) = (w : Int) / 2 := by omega
  have ex : ((((x : Int) / 2).toNat : Nat) : Int) = (x : Int) / 2 := by omega
  unfold S.at2
  by_cases hx : (x : Int) / 2 = (w : Int) / 2
  · have hs := nth_set_same (l := O) (i := ((w : Int) / 2).toNat) (x := (t, (nth O ((w : Int) / 2)).2)) (by omega)
    rw [e] at hs
    rw [hx, hs]
    by_cases h2 : x = w
    · subst h2; rw [if_pos h, if_pos rfl]
    · rw [if_neg (by omega), if_neg h2, if_neg (by omega)]
  · have hn := nth_set_ne (l := O) (x := (t, (nth O ((w : Int) / 2)).2)) (i := ((w : Int) / 2).toNat) (j := ((x : Int) / 2).toNat) (by omega)
    rw [ex] at hn
    rw [hn, if_neg (show ¬ x = w from fun h => hx (by rw [h]))]
theorem S.set_odd {O : List S.Pr} {w : Nat} {t : Int} (hw : w < 2 * O.length) (h : ¬ (w : Int) % 2 = 0) (x : Nat) : S.at2 (O.set ((w : Int) / 2).toNat ((nth O ((w : Int) / 2)).1, t)) (x : Int) = if x = w then t else S.at2 O (x : Int) := by
  have e : ((((w : Int) / 2).toNat : Nat) : Int) = (w : Int) / 2 := by omega
  have ex : ((((x : Int) / 2).toNat : Nat) : Int) = (x : Int) / 2 := by omega
  unfold S.at2
  by_cases hx : (x : Int) / 2 = (w : Int) / 2
  · have hs := nth_set_same (l := O) (i := ((w : Int) / 2).toNat) (x := ((nth O ((w : Int) / 2)).1, t)) (by omega)
    rw [e] at hs
    rw [hx, hs]
    by_cases h2 : x = w
    · subst h2; rw [if_neg h, if_pos rfl]
    · rw [if_pos (by omega), if_neg h2, if_pos (by omega)]
  · have hn := nth_set_ne (l := O) (x := ((nth O ((w : Int) / 2)).1, t)) (i := ((w : Int) / 2).toNat) (j := ((x : Int) / 2).toNat) (by omega)
    rw [ex] at hn
    rw [hn, if_neg (show ¬ x = w from fun h => hx (by rw [h]))]
/-- What has been written so far. -/
def S.Wr (l : List S.Pr) (es : Array MapEntry) (E : S.Mm) (O : List S.Pr) (seen : Array Nat) : Prop := ∀ w : Nat, w < 2 * l.length → (∃ en ∈ es.toList, en.key = kvW (w : Int) ∧ en.born ∈ seen.toList) → S.at2 O (w : Int) = (find (w : Int) E).getD 0 - S.at2 l (w : Int)
theorem S.Wr.step {l O O' : List S.Pr} {es : Array MapEntry} {clock : Nat} {E : S.Mm} {seen : Array Nat} {e : MapEntry} {wn : Nat} {vn : Int} (h : S.Wr l es E O seen) (hE : Ents kvW vvI es clock E) (he : e ∈ es.toList) (hk : e.key = kvW (wn : Int)) (hf : find (wn : Int) E = some vn)
    (hO : ∀ x : Nat, S.at2 O' (x : Int) = if x = wn then vn - S.at2 l (wn : Int) else S.at2 O (x : Int)) : S.Wr l es E O' (seen.push e.born) := by
  rintro w hw ⟨en, hen, hkey, hb⟩
  rw [hO w]
  by_cases hx : w = wn
  · subst hx; rw [if_pos rfl, hf]; rfl
  · rw [if_neg hx]
    refine h w hw ⟨en, hen, hkey, ?_⟩
    simp at hb
    rcases hb with hb | hb
    · simpa using hb
    · have := hE.inj hen he hb
      subst this
      rw [hk] at hkey
      simp [kvW] at hkey
      omega
theorem S.Wr.over {l O : List S.Pr} {B U F : List Int} {es : Array MapEntry} {clock : Nat} {E : S.Mm} {seen : Array Nat} (h : S.Wr l es E O seen) (hE : Ents kvW vvI es clock E) (hOK : S.DayOK l B U F E) (hfull : 2 * l.length ≤ E.length)
    (hall : ∀ e ∈ es.toList, e.born ∈ seen.toList) : ∀ w : Nat, w < 2 * l.length → S.at2 O (w : Int) = (find (w : Int) E).getD 0 - S.at2 l (w : Int) := fun w hw => by
  obtain ⟨v, hv, _⟩ := hOK.full hfull hw
  obtain ⟨e, he, hk, _⟩ := hE.of_find hv
  exact h w hw ⟨e, he, hk, hall e he⟩
theorem S.pl_none {l : List S.Pr} {B T F : List Int} (h : S.checkOrder l B T F = 0) (h2 : ¬ ∃ s, S.SolF l B T F s) : S.play l B T F = ([], 13) := S.pl2 h (by rw [S.playOf_none h2]; rfl)
theorem S.pl_some {l p : List S.Pr} {B T F : List Int} (h : S.checkOrder l B T F = 0) (hj : S.Jobs l) (h2 : S.SolP l B T F p) : S.play l B T F = (p, 0) := by rw [S.pl3 h (by rw [S.playOf_some hj h2]; simp), S.playOf_some hj h2]; rfl

theorem c32 {v : Value} {js : List S.Pr} {vb vt vf : Value} {B U F : List Int} {w : World} (h0 : Rd encP 2 v js w) (hB : Rd encI 1 vb B w) (hT : Rd encI 1 vt U w) (hF : Rd encI 1 vf F w) (hn : js.length ≤ 1000000) (hBl : B.length ≤ 1000000) (hTl : U.length ≤ 1000000) (hFl : F.length ≤ 1000000)  :
    Fn Try.prog 32 [v, (.agg #[vb, vt, vf])].toArray w (fun u w => ∃ q, u = .tuple #[q, .int .i64 (S.play js B U F).2] ∧ Own 73 2 encP q (S.play js B U F).1 w) := by
  refine fn_of' (args := [v, (.agg #[vb, vt, vf])]) Try.func32 rfl (ent Try.func32 (by kernel_rfl) rfl) rfl rfl (fun hH => ?_)
  refine seq ?_
  refine region ?_
  refine op_box (us := [vb, vt, vf]) rfl rfl rfl hH (fun b1 w2 hH3 => ?_)
  refine ops_y hH3 rfl rfl (yv_assign rfl) ?_
  refine ops_y hH3 rfl rfl (yv_assign rfl) ?_
  refine ops_nil ?_
  refine thn_n ?_
  refine seq ?_
  by_cases hc4 : S.checkOrder js B U F = 0
  · skip
    have hco : S.checkOrder js B U F = 0 := ‹_›
    obtain ⟨hj, hO⟩ := S.checkOrder_iff.1 hco
    have hO8 := hO
    obtain ⟨hlB, hlU, hlF, hOk⟩ := hO8
    have hl1 := hj.1
    have hl8 := hj.2.1
    refine region ?_
    refine ops_y hH3 rfl rfl (yv_move rfl) ?_
    refine ops_y hH3 rfl rfl (yv_loadA (cs := [vb, vt, vf]) T.agg41 rfl rfl (fun _ hw => Heap.cellsw hw (n := 0) rfl (k := 0) rfl)) ?_
    refine op_fn rfl rfl rfl hH3 (c72 (h0.now hH3 (n := 1) rfl) (hB.now hH3 (n := 1) rfl) (hT.now hH3 (n := 1) rfl) (hF.now hH3 (n := 1) rfl) (by omega) (by omega) (by omega) (by omega) hco) (fun u7 w5 lo8 hi9 hH6 hv10 => ?_)
    obtain ⟨d, m, E, hu, hday, hOK⟩ := hv10
    subst hu
    obtain ⟨es, clock, hents, hH11⟩ := Heap.toDay hH6 (n := 0) rfl (fun w' h => by obtain ⟨d', m', E', e, h, _⟩ := h; cases e; exact ⟨_, _, h⟩) hday
    refine ops_y hH11 rfl rfl (yv_move rfl) ?_
    refine ops_y hH11 rfl rfl (yv_extract rfl rfl) ?_
    refine ops_y hH11 rfl rfl (yv_extract rfl rfl) ?_
    refine ops_y hH11 rfl rfl (yv_assign rfl) ?_
    refine ops_y hH11 rfl rfl (yv_assign rfl) ?_
    refine ops_nil ?_
    refine thn_n ?_
    refine seq ?_
    refine block ?_
    refine seq ?_
    refine region ?_
    refine ops_y hH11 rfl rfl (yv_move rfl) ?_
    refine ops_y hH11 rfl rfl (yv_neq rfl rfl) ?_
    refine ops_y hH11 rfl rfl (yv_assign rfl) ?_
    refine ops_nil ?_
    refine thn_n ?_
    have hc12 : ¬ (¬ ((0 : Int) = 0)) := fun h => h rfl
    refine cond_f rfl (not_decide_f hc12) ?_
    refine seq ?_
    refine region ?_
    refine ops_y hH11 rfl rfl (yv_move rfl) ?_
    refine ops_y hH11 rfl rfl (yv_nilck rfl) ?_
    refine ops_y hH11 rfl rfl (yv_field T.f103_1 rfl) ?_
    refine ops_y hH11 rfl rfl (yv_load T.one101 rfl (fun _ hw => bx_cell ((Heap.dr hw (n := 0) rfl).1) rfl)) ?_
    refine ops_y hH11 rfl rfl (yv_lenMap T.m101 rfl (fun _ hw => ((DayR.day (Heap.dr hw (n := 0) rfl) hents).2))) ?_
    refine ops_y hH11 rfl rfl (yv_move rfl) ?_
    refine ops_y hH11 rfl rfl (yv_len T.sl22 rfl (h0.now hH11 (n := 2) rfl).is) ?_
    refine ops_y hH11 rfl rfl (yv_mul rfl rfl (by omega)) ?_
    refine ops_y hH11 rfl rfl (yv_lss rfl rfl) ?_
    refine ops_y hH11 rfl rfl (yv_assign rfl) ?_
    refine ops_nil ?_
    refine thn_n ?_
    by_cases hc13 : (E.length : Int) < (2 * (js.length : Int))
    · skip
      have hnone := hOK.none hj hO (by omega)
      refine cond_t rfl (decide_eq_true hc13) ?_
      refine seq ?_
      refine region ?_
      refine ops_y hH11 rfl rfl (yv_assign rfl) ?_
      refine ops_y hH11 rfl rfl (yv_assign rfl) ?_
      refine ops_nil ?_
      refine thn_n ?_
      refine ret ?_
      refine blk_r ?_
      refine thn_r ?_
      have hH14 := (hH11.sub (List.Sublist.cons _ (List.Sublist.cons _ (List.Sublist.refl _))))
      refine fin hH14 (fun w' hf => (res2 rfl (show RV _ _ _ (.tmp 4) _ from rfl) (show RV _ _ _ (.tmp 5) _ from rfl))) (fun w' hf => ?_)
      first | (rw [S.pl1 hcn]; exact ⟨_, rfl, own_nil⟩) | (rw [S.pl_none hco hnone]; exact ⟨_, rfl, own_nil⟩) | (rw [S.pl_some hco hj hsol]; exact ⟨_, rfl, Heap.own hf (n := 0) rfl⟩)
    · skip
      have hfull : 2 * js.length ≤ E.length := by omega
      refine cond_f rfl (decide_eq_false hc13) ?_
      refine skip ?_
      refine blk_n ?_
      refine thn_n ?_
      refine seq ?_
      refine region ?_
      refine ops_y hH11 rfl rfl (yv_move rfl) ?_
      refine ops_y hH11 rfl rfl (yv_len T.sl22 rfl (h0.now hH11 (n := 2) rfl).is) ?_
      refine op_make T.el23_encP ((0, 0) : Int × Int) T.z23_encP rfl rfl rfl hH11 (by omega) (by omega) (fun u15 lo17 hi18 w16 hH19 => ?_)
      refine ops_y hH19 rfl rfl (yv_assign rfl) ?_
      refine ops_nil ?_
      refine thn_n ?_
      refine seq ?_
      refine region ?_
      refine ops_y hH19 rfl rfl (yv_move rfl) ?_
      refine op_clear (n := 0) T.el23_encP ((0, 0) : Int × Int) T.z23_encP rfl rfl hH19 rfl (fun w20 hH21 => ?_)
      refine ops_nil ?_
      refine thn_n ?_
      refine seq ?_
      refine seq ?_
      refine region ?_
      refine ops_y hH21 rfl rfl (yv_move rfl) ?_
      refine ops_y hH21 rfl rfl (yv_nilck rfl) ?_
      refine ops_y hH21 rfl rfl (yv_field T.f103_1 rfl) ?_
      refine ops_y hH21 rfl rfl (yv_load T.one101 rfl (fun _ hw => bx_cell ((Heap.dr hw (n := 1) rfl).1) rfl)) ?_
      refine op_range T.m101.und rfl rfl hH21 (Heap.dr hH21 (n := 1) rfl).2 (fun r22 w23 hH24 => ?_)
      refine ops_nil ?_
      refine thn_n ?_
      refine block ?_
      refine loop (S := Array Nat × List S.Pr × Value × Nat × Nat) (fun (seen, O, v_8, lo_8, hi_8) => [(8, v_8), (0, v), (4, (.slice none 0 0)), (5, (.int .i64 0)), (40, (.pointer (some ⟨r22, 0, none⟩)))]) (fun (seen, O, v_8, lo_8, hi_8) w1 => Heap [raw r22 (.mapIter (some m) clock seen clock), ow lo_8 hi_8 73 2 encP v_8 O, ⟨lo8, hi9, DayR d vb vt vf m es clock⟩, bx b1 41 [vb, vt, vf], base w] w1 ∧ O.length = js.length ∧ S.Wr js es E O seen) (fun (seen, O, v_8, lo_8, hi_8) => unseen es seen) (#[], (List.replicate (List.replicate (js.length : Int).toNat ((0, 0) : Int × Int)).length ((0, 0) : Int × Int)), u15, lo17, hi18) (Sub.cons rfl (Sub.cons rfl (Sub.cons rfl (Sub.cons rfl (Sub.cons rfl (Sub.nil _)))))) ?_ ?_
      · exact ⟨hH24, by simp, fun w hw h => by obtain ⟨_, _, _, h⟩ := h; simp at h⟩
      · rintro ⟨seen, O, v_8, lo_8, hi_8⟩ w25 ⟨hH26, hOl, hWr⟩
        show Holds _ _ _ _ _ [(8, v_8), (0, v), (4, (.slice none 0 0)), (5, (.int .i64 0)), (40, (.pointer (some ⟨r22, 0, none⟩)))] _ _
        refine seq ?_
        refine region ?_
        refine op_next rfl rfl hH26 (Heap.dr hH26 (n := 2) rfl).2 (k := 0) rfl hents.born (fun hall27 w31 hH32 => ?_) (fun e28 he29 hns30 w31 hH32 => ?_)
        · skip
          have hsol := hOK.sol hO hfull hOl (hWr.over hents hOK hfull hall27)
          refine ops_y hH32 rfl rfl (yv_extract rfl rfl) ?_
          refine ops_nil ?_
          refine thn_n ?_
          refine seq ?_
          refine cond_f rfl rfl ?_
          refine exit ?_
          refine thn_x ?_
          refine lp_x ?_
          refine blk_here ?_
          refine thn_n ?_
          refine seq ?_
          refine region ?_
          refine ops_y hH32 rfl rfl (yv_move rfl) ?_
          refine ops_y hH32 rfl rfl (yv_assign rfl) ?_
          refine ops_y hH32 rfl rfl (yv_assign rfl) ?_
          refine ops_nil ?_
          refine thn_n ?_
          refine ret ?_
          have hH33 := (hH32.sub (List.Sublist.cons _ (List.Sublist.cons_cons _ (List.Sublist.cons _ (List.Sublist.cons _ (List.Sublist.refl _))))))
          refine fin (hH33.front (n := 1) rfl) (fun w' hf => (res2 rfl (show RV _ _ _ (.tmp 4) _ from rfl) (show RV _ _ _ (.tmp 5) _ from rfl))) (fun w' hf => ?_)
          first | (rw [S.pl1 hcn]; exact ⟨_, rfl, own_nil⟩) | (rw [S.pl_none hco hnone]; exact ⟨_, rfl, own_nil⟩) | (rw [S.pl_some hco hj hsol]; exact ⟨_, rfl, Heap.own hf (n := 0) rfl⟩)
        · skip
          obtain ⟨kn, vn, hkey, hval, hfind⟩ := hents.entry he29
          obtain ⟨wn, hwn, hkw⟩ := hOK.keys kn (by rw [hfind]; simp)
          subst hkw
          have hvb := hOK.bd _ _ hfind
          have hns := hns30
          have hen := he29
          refine ops_y hH32 rfl rfl (yv_extract rfl rfl) ?_
          refine ops_nil ?_
          refine thn_n ?_
          refine seq ?_
          refine cond_t rfl rfl ?_
          refine skip ?_
          refine thn_n ?_
          refine block ?_
          refine seq ?_
          refine region ?_
          refine ops_y hH32 rfl rfl (yv_entryK hkey hval rfl he29 hents.bornNd (fun _ hw => (Heap.dr hw (n := 2) rfl).2) (fun _ hw => Heap.raww hw (n := 0) rfl)) ?_
          refine ops_y hH32 rfl rfl (yv_extract rfl rfl) ?_
          refine ops_y hH32 rfl rfl (yv_extract rfl rfl) ?_
          refine op_alloc (z := (.agg #[(.int .i64 0)])) (us := [(.int .i64 0)]) (fun _ => by kernel_rfl) rfl rfl hH32 (fun b34 w35 hH36 => ?_)
          refine op_store (n := 0) (j := 0) (us := [(.int .i64 (wn : Int))]) rfl rfl hH36 rfl T.sz105 rfl rfl rfl (by rfl) (fun w37 hH38 => ?_)
          refine ops_y hH38 rfl rfl (yv_assign rfl) ?_
          refine ops_nil ?_
          refine thn_n ?_
          refine seq ?_
          have hmw := hj.at2 (w := (wn : Int)) (by omega) (by omega)
          refine region ?_
          refine ops_y hH38 rfl rfl (yv_move rfl) ?_
          refine ops_y hH38 rfl rfl (yv_move rfl) ?_
          refine ops_y hH38 rfl rfl (yv_field T.f105_0 rfl) ?_
          refine ops_y hH38 rfl rfl (yv_load T.one3 rfl (fun _ hw => Heap.cellw hw (n := 0) rfl rfl)) ?_
          refine op_fnV rfl rfl rfl hH38 (c59 (h0.now hH38 (n := 5) rfl) (by omega) (by omega) (by omega)) (fun w39 hH40 => ?_)
          refine ops_y hH40 rfl rfl (yv_sub rfl rfl (by omega)) ?_
          refine ops_y hH40 rfl rfl (yv_assign rfl) ?_
          refine ops_nil ?_
          refine thn_n ?_
          refine seq ?_
          refine region ?_
          refine ops_y hH40 rfl rfl (yv_field T.f105_0 rfl) ?_
          refine ops_y hH40 rfl rfl (yv_load T.one3 rfl (fun _ hw => Heap.cellw hw (n := 0) rfl rfl)) ?_
          refine ops_y hH40 rfl rfl (yv_rem rfl rfl (by omega) (by omega)) ?_
          refine ops_y hH40 rfl rfl (yv_eql rfl rfl) ?_
          refine ops_nil ?_
          refine thn_n ?_
          by_cases hc41 : ((wn : Int) % 2) = 0
          · skip
            have heven : (wn : Int) % 2 = 0 := ‹_›
            refine cond_t rfl (decide_eq_true hc41) ?_
            refine region ?_
            refine ops_y hH40 rfl rfl (yv_move rfl) ?_
            refine ops_y hH40 rfl rfl (yv_field T.f105_0 rfl) ?_
            refine ops_y hH40 rfl rfl (yv_load T.one3 rfl (fun _ hw => Heap.cellw hw (n := 0) rfl rfl)) ?_
            refine ops_y hH40 rfl rfl (yv_quo rfl rfl (by omega) (by omega) (by omega)) ?_
            refine ops_y hH40 rfl rfl (yv_move rfl) ?_
            refine ops_y hH40 rfl rfl (yv_index T.sl23 rfl rfl (Heap.rdw T.el23_encP hH40 (n := 2) rfl).is (by omega)) ?_
            refine ops_y hH40 rfl rfl (yv_field T.f73_0 rfl) ?_
            refine op_setE (n := 2) (i := (wn : Int) / 2) (k := 0) (us := [(.int .i64 (vn - (S.at2 js (wn : Int))))]) (z := (vn - (S.at2 js (wn : Int)), (nth O ((wn : Int) / 2)).2)) T.el23_encP rfl rfl hH40 rfl (by omega) T.sz2 rfl rfl rfl (Nat.le_of_ble_eq_true rfl) (fun w42 hH43 => ?_)
            refine ops_nil ?_
            refine blk_n ?_
            have hH44 := (hH43.sub (List.Sublist.cons _ (List.Sublist.refl _)))
            refine lp_n ((seen.push e28.born), (O.set ((wn : Int) / 2).toNat (vn - (S.at2 js (wn : Int)), (nth O ((wn : Int) / 2)).2)), v_8, lo_8, hi_8) (Sub.cons rfl (Sub.cons rfl (Sub.cons rfl (Sub.cons rfl (Sub.cons rfl (Sub.nil _)))))) ?_ ?_
            · exact ⟨hH44, by rw [List.length_set]; exact hOl, hWr.step hents hen hkey hfind (S.set_even (by omega) ‹_›)⟩
            · show _ < _; exact unseen_lt hen hns
          · skip
            refine cond_f rfl (decide_eq_false hc41) ?_
            refine region ?_
            refine ops_y hH40 rfl rfl (yv_move rfl) ?_
            refine ops_y hH40 rfl rfl (yv_field T.f105_0 rfl) ?_
            refine ops_y hH40 rfl rfl (yv_load T.one3 rfl (fun _ hw => Heap.cellw hw (n := 0) rfl rfl)) ?_
            refine ops_y hH40 rfl rfl (yv_quo rfl rfl (by omega) (by omega) (by omega)) ?_
            refine ops_y hH40 rfl rfl (yv_move rfl) ?_
            refine ops_y hH40 rfl rfl (yv_index T.sl23 rfl rfl (Heap.rdw T.el23_encP hH40 (n := 2) rfl).is (by omega)) ?_
            refine ops_y hH40 rfl rfl (yv_field T.f73_1 rfl) ?_
            refine op_setE (n := 2) (i := (wn : Int) / 2) (k := 1) (us := [(.int .i64 (vn - (S.at2 js (wn : Int))))]) (z := ((nth O ((wn : Int) / 2)).1, vn - (S.at2 js (wn : Int)))) T.el23_encP rfl rfl hH40 rfl (by omega) T.sz2 rfl rfl rfl (Nat.le_of_ble_eq_true rfl) (fun w45 hH46 => ?_)
            refine ops_nil ?_
            refine blk_n ?_
            have hH47 := (hH46.sub (List.Sublist.cons _ (List.Sublist.refl _)))
            refine lp_n ((seen.push e28.born), (O.set ((wn : Int) / 2).toNat ((nth O ((wn : Int) / 2)).1, vn - (S.at2 js (wn : Int)))), v_8, lo_8, hi_8) (Sub.cons rfl (Sub.cons rfl (Sub.cons rfl (Sub.cons rfl (Sub.cons rfl (Sub.nil _)))))) ?_ ?_
            · exact ⟨hH47, by rw [List.length_set]; exact hOl, hWr.step hents hen hkey hfind (S.set_odd (by omega) ‹_›)⟩
            · show _ < _; exact unseen_lt hen hns
  · skip
    have hcn : ¬ S.checkOrder js B U F = 0 := ‹_›
    refine region ?_
    refine ops_y hH3 rfl rfl (yv_move rfl) ?_
    refine ops_y hH3 rfl rfl (yv_loadA (cs := [vb, vt, vf]) T.agg41 rfl rfl (fun _ hw => Heap.cellsw hw (n := 0) rfl (k := 0) rfl)) ?_
    refine op_fnV rfl rfl rfl hH3 (c72n (h0.now hH3 (n := 1) rfl) (hB.now hH3 (n := 1) rfl) (hT.now hH3 (n := 1) rfl) (hF.now hH3 (n := 1) rfl) (by omega) (by omega) (by omega) (by omega) hcn) (fun w48 hH49 => ?_)
    refine ops_y hH49 rfl rfl (yv_move rfl) ?_
    refine ops_y hH49 rfl rfl (yv_extract rfl rfl) ?_
    refine ops_y hH49 rfl rfl (yv_extract rfl rfl) ?_
    refine ops_y hH49 rfl rfl (yv_assign rfl) ?_
    refine ops_y hH49 rfl rfl (yv_assign rfl) ?_
    refine ops_nil ?_
    refine thn_n ?_
    refine seq ?_
    refine block ?_
    refine seq ?_
    refine region ?_
    refine ops_y hH49 rfl rfl (yv_move rfl) ?_
    refine ops_y hH49 rfl rfl (yv_neq rfl rfl) ?_
    refine ops_y hH49 rfl rfl (yv_assign rfl) ?_
    refine ops_nil ?_
    refine thn_n ?_
    have hc50 : ¬ ((S.checkOrder js B U F) = 0) := hcn
    refine cond_t rfl (not_decide_t hc50) ?_
    refine seq ?_
    refine region ?_
    refine ops_y hH49 rfl rfl (yv_move rfl) ?_
    refine ops_y hH49 rfl rfl (yv_assign rfl) ?_
    refine ops_y hH49 rfl rfl (yv_assign rfl) ?_
    refine ops_nil ?_
    refine thn_n ?_
    refine ret ?_
    refine blk_r ?_
    refine thn_r ?_
    have hH51 := (hH49.sub (List.Sublist.cons _ (List.Sublist.refl _)))
    refine fin hH51 (fun w' hf => (res2 rfl (show RV _ _ _ (.tmp 4) _ from rfl) (show RV _ _ _ (.tmp 5) _ from rfl))) (fun w' hf => ?_)
    first | (rw [S.pl1 hcn]; exact ⟨_, rfl, own_nil⟩) | (rw [S.pl_none hco hnone]; exact ⟨_, rfl, own_nil⟩) | (rw [S.pl_some hco hj hsol]; exact ⟨_, rfl, Heap.own hf (n := 0) rfl⟩)

end Go.Fip
