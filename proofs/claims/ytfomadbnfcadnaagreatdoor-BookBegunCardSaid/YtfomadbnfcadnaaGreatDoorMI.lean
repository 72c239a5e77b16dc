/- Joined texts: V1, Bn, V2, V3. -/
import Derived.Test.YtfomadbnfcadnaaGreatDoorMH
set_option linter.unusedVariables false
set_option linter.unusedSimpArgs false
set_option linter.unusedSectionVars false
set_option linter.unnecessarySimpa false
namespace Go.Fip
open Go.Proofs Go.RowKit
def B.hxAt (l : List UInt8) (k : Nat) : Prop := (48 ≤ byteAt l (k : Int) ∧ byteAt l (k : Int) ≤ 57) ∨ (97 ≤ byteAt l (k : Int) ∧ byteAt l (k : Int) ≤ 102)
theorem B.hxAt_iff {l : List UInt8} {k : Nat} (h : k < l.length) : B.hxAt l k ↔ B.isH l[k] := by
 unfold B.hxAt B.isH
 rw [B.byteAt_nat h]; omega
theorem B.hxs {l : List UInt8} {k : Nat} (hk : k ≤ l.length) (h : ∀ i : Nat, i < k → 4 ≤ i → B.hxAt l i) : ∀ b ∈ (l.take k).drop 4, B.isH b := by
 intro b hb
 obtain ⟨i, hi, rfl⟩ := List.getElem_of_mem hb
 rw [List.length_drop, List.length_take] at hi
 rw [List.getElem_drop, List.getElem_take]
 exact (B.hxAt_iff (by omega)).1 (h (4 + i) (by omega) (by omega))
def B.enL (v : List Int) : En := ⟨nth v 0, nth v 1, nth v 2, nth v 3, nth v 4⟩
def B.IsEnt (ps : List (List UInt8)) : Prop := ps.length = 5 ∧ ∀ p ∈ ps, B.Num p
instance {ps : List (List UInt8)} : Decidable (B.IsEnt ps) := by unfold B.IsEnt; infer_instance
def B.valI (p : List UInt8) : Int := (B.val p : Int)
def B.entR (l : List UInt8) : En × Bool := if B.IsEnt (B.sp 32 l) then (B.enL ((B.sp 32 l).map B.valI), true) else (⟨0, 0, 0, 0, 0⟩, false)
theorem B.entR_t {l : List UInt8} (h : B.IsEnt (B.sp 32 l)) : B.entR l = (B.enL ((B.sp 32 l).map B.valI), true) := if_pos h
theorem B.entR_f {l : List UInt8} (h : ¬ B.IsEnt (B.sp 32 l)) : B.entR l = (⟨0, 0, 0, 0, 0⟩, false) := if_neg h
theorem B.tk_map {ps : List (List UInt8)} {k : Nat} {x : Int} (hk : k < ps.length) (e : x = B.valI (nth ps (k : Int))) : (ps.take k).map B.valI ++ [x] = (ps.take (k + 1)).map B.valI := by
 rw [List.take_succ_eq_append_getElem hk, List.map_append, e, nth_nat hk]; rfl
theorem B.ent_not {ps : List (List UInt8)} {k : Nat} (hk : k < ps.length) (h : ¬ B.Num (nth ps (k : Int))) : ¬ B.IsEnt ps := fun c => h (c.2 _ (B.nth_mem hk))
theorem B.ent_all {ps : List (List UInt8)} (h : ps.length = 5) (hall : ∀ i : Nat, i < ps.length → B.Num (nth ps (i : Int))) : B.IsEnt ps := ⟨h, fun p hp => by
 obtain ⟨i, hi, rfl⟩ := List.getElem_of_mem hp
 have := hall i hi
 rwa [nth_nat hi] at this⟩
theorem c89 {l : List UInt8} {w : World} (hG : Gl w) (hn : l.length ≤ 1000)  :
  Fn Tryz.prog 89 [(str l)].toArray w (fun u _ => u = .tuple #[(.agg #[(.int .i64 ((B.entR l).1.n)), (.int .i64 ((B.entR l).1.d)), (.int .i64 ((B.entR l).1.f)), (.int .i64 ((B.entR l).1.t)), (.int .i64 ((B.entR l).1.a))]), .bool (B.entR l).2]) := by
 refine fn_of' (args := [(str l)]) Tryz.func89 rfl (ent Tryz.func89 (by kernel_rfl) rfl) rfl rfl (fun hH => ?_)
 refine seq (region ?_)
 refine op_alloc (z := (.agg #[(.int .i64 0), (.int .i64 0), (.int .i64 0), (.int .i64 0), (.int .i64 0)])) (us := [(.int .i64 0), (.int .i64 0), (.int .i64 0), (.int .i64 0), (.int .i64 0)]) (fun _ => by kernel_rfl) rfl rfl hH (fun b1 w2 hH3 => ?_)
 refine oA hH3 rfl rfl (ops_nil (thn_n (seq (region (oA hH3 rfl rfl (ops_nil (thn_n (seq (seq ?_)))))))))
 refine region (oM hH3 rfl rfl ?_)
 refine op_fn rfl rfl rfl hH3 (c88 (l := l) (c := 32) (hG.now hH3 (n := 1) rfl) (by omega)) (fun u6 w4 lo7 hi8 hH5 hv9 => ?_)
 have hH10 := Heap.toOw hH5 (n := 0) rfl
 refine ops_y hH10 rfl rfl (yv_len T.sl56 rfl (Heap.rdw T.el56_encT hH10 (n := 0) rfl).is) ?_
 refine oM hH10 rfl rfl (ops_nil (thn_n (block ?_)))
 have hH11 := ow_nil (enc := encI) 2 1 hH10
 refine loop (S := Nat × Value × Nat × Nat) (fun (k, v_4, lo_4, hi_4) => [(12, (.int .i64 (k : Int))), (4, v_4), (2, (.pointer (some ⟨b1, 0, none⟩))), (10, u6), (11, (.int .i64 ((B.sp 32 l).length : Int)))]) (fun (k, v_4, lo_4, hi_4) w1 => Heap [ow lo_4 hi_4 2 1 encI v_4 (((B.sp 32 l).take k).map B.valI), ow lo7 hi8 9 1 encT u6 (B.sp 32 l), bx b1 38 [(.int .i64 0), (.int .i64 0), (.int .i64 0), (.int .i64 0), (.int .i64 0)], base w] w1 ∧ k ≤ (B.sp 32 l).length ∧ ∀ i : Nat, i < k → B.Num (nth (B.sp 32 l) (i : Int))) (fun (k, v_4, lo_4, hi_4) => (B.sp 32 l).length - k) (0, (.slice none 0 0), w4.heap.size, w4.heap.size) (uC rfl (uC rfl (uC rfl (uC rfl (uC rfl (Sub.nil _)))))) ?_ ?_
 ·exact ⟨(Heap.recast (n := 0) hH11 rfl (rfl)), by omega, fun i h => by omega⟩
 ·rintro ⟨k, v_4, lo_4, hi_4⟩ w12 ⟨hH13, hk, hall⟩
  show Holds _ _ _ _ _ [(12, (.int .i64 (k : Int))), (4, v_4), (2, (.pointer (some ⟨b1, 0, none⟩))), (10, u6), (11, (.int .i64 ((B.sp 32 l).length : Int)))] _ _
  have hsl := B.sp_len 32 l
  have hsp := B.sp_len_pos 32 l
  have htl : (((B.sp 32 l).take k).map B.valI).length = k := by rw [List.length_map, List.length_take]; omega
  refine seq (region ?_)
  refine ops_y hH13 rfl rfl (yv_lss rfl rfl) ?_
  refine ops_nil (thn_n (seq ?_))
  by_cases hc14 : (k : Int) < ((B.sp 32 l).length : Int)
  ·skip
   refine cond_t rfl (dT hc14) ?_
   refine skip (thn_n (seq (block (seq ?_))))
   have hpl := B.sp_nth_len (c := 32) (l := l) (k := k) (by omega)
   refine region ?_
   refine ops_y hH13 rfl rfl (yv_index T.sl56 rfl rfl (Heap.rdw T.el56_encT hH13 (n := 1) rfl).is (by omega)) ?_
   refine ops_y hH13 rfl rfl (yv_load T.one9 rfl (fun _ hw => Rd.at (Heap.rdw T.el56_encT hw (n := 1) rfl) (i := (k : Int)) (by omega) (j := 0) rfl)) ?_
   refine oA hH13 rfl rfl (ops_nil (thn_n (seq (region (oM hH13 rfl rfl ?_)))))
   refine op_fn rfl rfl rfl hH13 (c119 (l := (nth (B.sp 32 l) (k : Int))) (hG.now hH13 (n := 3) rfl) (by omega)) (fun u19 w17 lo20 hi21 hH18 hv22 => ?_)
   obtain ⟨nv15, hu, hnv16⟩ := hv22
   subst hu
   have hH23 := hH18.sub (List.sublist_cons_self _ _)
   refine oM hH23 rfl rfl (ops_y hH23 rfl rfl (yv_extract rfl rfl) (ops_y hH23 rfl rfl (yv_extract rfl rfl) (oA hH23 rfl rfl (oA hH23 rfl rfl (ops_nil (thn_n (seq (seq (region ?_)))))))))
   refine oM hH23 rfl rfl ?_
   refine ops_y hH23 rfl rfl (yv_not rfl) ?_
   refine ops_nil (thn_n ?_)
   by_cases hc24 : B.Num (nth (B.sp 32 l) (k : Int))
   ·skip
    refine cond_f rfl (not_decide_n hc24) ?_
    refine skip (thn_n ?_)
    have hnk : B.Num (nth (B.sp 32 l) (k : Int)) := by first | assumption | exact Decidable.not_not.1 ‹_›
    have hvk : nv15 = B.valI (nth (B.sp 32 l) (k : Int)) := hnv16 hnk
    refine region (oM hH23 rfl rfl (oM hH23 rfl rfl ?_))
    refine op_lit (us := [(0, (.int .i64 nv15))]) T.el131_encI [nv15] rfl (by decide) rfl (fun a ha => by simp [ha.ev (show ev _ (.tmp 25) = some _ from rfl)]) (fun w => by kernel_rfl) hH23 (fun u25 lo27 hi28 w26 hH29 => ?_)
    refine op_append (n := 1) T.el131_encI rfl rfl rfl hH29 rfl (Heap.rdw T.el131_encI hH29 (n := 0) rfl) (by first | omega | (simp only [List.length_append, List.length_cons, List.length_nil]; omega)) (fun u30 lo32 hi33 w31 hH34 => ?_)
    refine oA hH34 rfl rfl (ops_nil (blk_n (thn_n (region ?_))))
    refine ops_y hH34 rfl rfl (yv_add rfl rfl (by omega)) ?_
    refine oM hH34 rfl rfl (ops_nil ?_)
    have hH35 := (hH34.sub (sC sR))
    refine lp_n (k + 1, u30, lo32, hi33) (uC rfl (uC rfl (uC rfl (uC rfl (uC rfl (Sub.nil _)))))) ?_ ?_
    ·exact ⟨(Heap.recast (n := 0) hH35 rfl (B.tk_map (by omega) hvk)), by omega, B.all_snoc hall hnk⟩
    ·first | (dsimp only; omega) | (show _ < _; omega)
   ·skip
    refine cond_t rfl (not_decide_t hc24) ?_
    refine seq ?_
    have hnn : ¬ B.IsEnt (B.sp 32 l) := B.ent_not (k := k) (by omega) (by first | assumption | exact fun h => absurd h ‹_›)
    refine region ?_
    refine ops_y hH23 rfl rfl (yv_build (v := (.agg #[(.int .i64 0), (.int .i64 0), (.int .i64 0), (.int .i64 0), (.int .i64 0)])) (us := []) (fun a ha => by simp []) (fun w => by kernel_rfl)) ?_
    refine op_store (n := 2) (j := 0) (us := [(.int .i64 0), (.int .i64 0), (.int .i64 0), (.int .i64 0), (.int .i64 0)]) rfl rfl hH23 rfl T.sz38 rfl rfl rfl (by rfl) (fun w36 hH37 => ?_)
    refine oA hH37 rfl rfl (ops_nil (thn_n (ret (thn_r (blk_r (thn_r (lp_r (blk_r (thn_r ?_)))))))))
    have hH38 := (hH37.sub (sC (sC sR)))
    refine fin (hH38.front (n := 1) rfl) (fun w' hf => (res2 rfl (rvA (cs := [(.int .i64 0), (.int .i64 0), (.int .i64 0), (.int .i64 0), (.int .i64 0)]) rfl T.agg38 rfl (bx_cells (Heap.bxw hf (n := 1) rfl) (k := 0) rfl)) (show RV _ _ _ (.tmp 3) _ from rfl))) (fun w' hf => ?_)
    first | (rw [B.entR_f hnn]) | (rw [B.entR_t hie, ← hva]; rfl)
  ·skip
   refine cond_f rfl (dF hc14) ?_
   refine exit (thn_x (lp_x (blk_here (thn_n (seq (seq (region (oM hH13 rfl rfl ?_))))))))
   refine ops_y hH13 rfl rfl (yv_len T.sl131 rfl (Heap.rdw T.el131_encI hH13 (n := 0) rfl).is) ?_
   refine ops_y hH13 rfl rfl (yv_neq rfl rfl) ?_
   refine ops_nil (thn_n ?_)
   by_cases hc39 : ((((B.sp 32 l).take k).map B.valI).length : Int) = 5
   ·skip
    refine cond_f rfl (not_decide_n hc39) ?_
    refine skip (thn_n (seq ?_))
    have hl5 : (B.sp 32 l).length = 5 := by omega
    have hie : B.IsEnt (B.sp 32 l) := B.ent_all hl5 (fun i hi => hall i (by omega))
    have hva : ((B.sp 32 l).take k).map B.valI = (B.sp 32 l).map B.valI := by rw [List.take_of_length_le (by omega)]
    refine region_drawY (fun w' => Heap [ow lo_4 hi_4 2 1 encI v_4 (((B.sp 32 l).take k).map B.valI), ow lo7 hi8 9 1 encT u6 (B.sp 32 l), bx b1 38 [(.int .i64 0), (.int .i64 0), (.int .i64 0), (.int .i64 0), (.int .i64 0)], base w] w') [16] T.mixed (fun w40 hr41 => ?_)
    have hH42 := hH13.redrawn hr41
    refine any_takesT [0, 1, 3, 4, 6, 7, 9, 10, 12, 13] (by kernel_rfl)  _ _ _ (by kernel_rfl) ?_
    refine qM rfl rfl rfl ?_
    refine qs_y rfl rfl (yv_index T.sl131 rfl rfl (Heap.rdw T.el131_encI hH42 (n := 0) rfl).is (by omega)) ?_
    refine qM rfl rfl rfl ?_
    refine qs_y rfl rfl (yv_index T.sl131 rfl rfl (Heap.rdw T.el131_encI hH42 (n := 0) rfl).is (by omega)) ?_
    refine qM rfl rfl rfl ?_
    refine qs_y rfl rfl (yv_index T.sl131 rfl rfl (Heap.rdw T.el131_encI hH42 (n := 0) rfl).is (by omega)) ?_
    refine qM rfl rfl rfl ?_
    refine qs_y rfl rfl (yv_index T.sl131 rfl rfl (Heap.rdw T.el131_encI hH42 (n := 0) rfl).is (by omega)) ?_
    refine qM rfl rfl rfl ?_
    refine qs_y rfl rfl (yv_index T.sl131 rfl rfl (Heap.rdw T.el131_encI hH42 (n := 0) rfl).is (by omega)) ?_
    refine qs_nil ?_
    refine any_takesY [2, 5, 8, 11, 14] (by kernel_rfl) hH42 _ _ _ (by kernel_rfl) ?_
    refine qs_y rfl rfl (yv_load T.one2 rfl (fun _ hw => Rd.at (Heap.rdw T.el131_encI hw (n := 0) rfl) (i := 0) (by omega) (j := 0) rfl)) ?_
    refine qs_y rfl rfl (yv_load T.one2 rfl (fun _ hw => Rd.at (Heap.rdw T.el131_encI hw (n := 0) rfl) (i := 1) (by omega) (j := 0) rfl)) ?_
    refine qs_y rfl rfl (yv_load T.one2 rfl (fun _ hw => Rd.at (Heap.rdw T.el131_encI hw (n := 0) rfl) (i := 2) (by omega) (j := 0) rfl)) ?_
    refine qs_y rfl rfl (yv_load T.one2 rfl (fun _ hw => Rd.at (Heap.rdw T.el131_encI hw (n := 0) rfl) (i := 3) (by omega) (j := 0) rfl)) ?_
    refine qs_y rfl rfl (yv_load T.one2 rfl (fun _ hw => Rd.at (Heap.rdw T.el131_encI hw (n := 0) rfl) (i := 4) (by omega) (j := 0) rfl)) ?_
    refine qs_nil ?_
    refine any_takesT [15] (by kernel_rfl)  _ _ _ (by kernel_rfl) ?_
    refine qs_y rfl rfl (yv_build (v := (.agg #[(.int .i64 (nth (((B.sp 32 l).take k).map B.valI) 0)), (.int .i64 (nth (((B.sp 32 l).take k).map B.valI) 1)), (.int .i64 (nth (((B.sp 32 l).take k).map B.valI) 2)), (.int .i64 (nth (((B.sp 32 l).take k).map B.valI) 3)), (.int .i64 (nth (((B.sp 32 l).take k).map B.valI) 4))])) (us := [(0, (.int .i64 (nth (((B.sp 32 l).take k).map B.valI) 0))), (1, (.int .i64 (nth (((B.sp 32 l).take k).map B.valI) 1))), (2, (.int .i64 (nth (((B.sp 32 l).take k).map B.valI) 2))), (3, (.int .i64 (nth (((B.sp 32 l).take k).map B.valI) 3))), (4, (.int .i64 (nth (((B.sp 32 l).take k).map B.valI) 4)))]) (fun a ha => by simp [ha.ev (show ev _ (.tmp 35) = some _ from rfl), ha.ev (show ev _ (.tmp 38) = some _ from rfl), ha.ev (show ev _ (.tmp 41) = some _ from rfl), ha.ev (show ev _ (.tmp 44) = some _ from rfl), ha.ev (show ev _ (.tmp 47) = some _ from rfl)]) (fun w => by kernel_rfl)) ?_
    refine qs_nil ?_
    refine any_allY [16] (by kernel_rfl) rfl ?_
    refine ⟨⟨_, rfl, ?_⟩, trivial⟩
    ·skip
     refine op_store (n := 2) (j := 0) (us := [(.int .i64 (nth (((B.sp 32 l).take k).map B.valI) 0)), (.int .i64 (nth (((B.sp 32 l).take k).map B.valI) 1)), (.int .i64 (nth (((B.sp 32 l).take k).map B.valI) 2)), (.int .i64 (nth (((B.sp 32 l).take k).map B.valI) 3)), (.int .i64 (nth (((B.sp 32 l).take k).map B.valI) 4))]) rfl rfl hH42 rfl T.sz38 rfl rfl rfl (by rfl) (fun w43 hH44 => ?_)
     refine ops_nil ?_
     refine ⟨(fun h => by cases h), ?_⟩
     refine any_takesT [17] (by kernel_rfl)  _ _ _ (by kernel_rfl) ?_
     refine qs_y rfl rfl (yv_assign rfl) (qs_nil ?_)
     refine any_doneY (by kernel_rfl) ?_
     refine thn_n (ret ?_)
     have hH45 := (hH44.sub (sC (sC sR)))
     refine fin (hH45.front (n := 1) rfl) (fun w' hf => (res2 rfl (rvA (cs := [(.int .i64 (nth (((B.sp 32 l).take k).map B.valI) 0)), (.int .i64 (nth (((B.sp 32 l).take k).map B.valI) 1)), (.int .i64 (nth (((B.sp 32 l).take k).map B.valI) 2)), (.int .i64 (nth (((B.sp 32 l).take k).map B.valI) 3)), (.int .i64 (nth (((B.sp 32 l).take k).map B.valI) 4))]) rfl T.agg38 rfl (bx_cells (Heap.bxw hf (n := 1) rfl) (k := 0) rfl)) (show RV _ _ _ (.tmp 3) _ from rfl))) (fun w' hf => ?_)
     first | (rw [B.entR_f hnn]) | (rw [B.entR_t hie, ← hva]; rfl)
   ·skip
    refine cond_t rfl (not_decide_t hc39) ?_
    refine seq ?_
    have hnn : ¬ B.IsEnt (B.sp 32 l) := fun h => absurd h.1 (by omega)
    refine region ?_
    refine ops_y hH13 rfl rfl (yv_build (v := (.agg #[(.int .i64 0), (.int .i64 0), (.int .i64 0), (.int .i64 0), (.int .i64 0)])) (us := []) (fun a ha => by simp []) (fun w => by kernel_rfl)) ?_
    refine op_store (n := 2) (j := 0) (us := [(.int .i64 0), (.int .i64 0), (.int .i64 0), (.int .i64 0), (.int .i64 0)]) rfl rfl hH13 rfl T.sz38 rfl rfl rfl (by rfl) (fun w46 hH47 => ?_)
    refine oA hH47 rfl rfl (ops_nil (thn_n (ret (thn_r ?_))))
    have hH48 := (hH47.sub (sC (sC sR)))
    refine fin (hH48.front (n := 1) rfl) (fun w' hf => (res2 rfl (rvA (cs := [(.int .i64 0), (.int .i64 0), (.int .i64 0), (.int .i64 0), (.int .i64 0)]) rfl T.agg38 rfl (bx_cells (Heap.bxw hf (n := 1) rfl) (k := 0) rfl)) (show RV _ _ _ (.tmp 3) _ from rfl))) (fun w' hf => ?_)
    first | (rw [B.entR_f hnn]) | (rw [B.entR_t hie, ← hva]; rfl)
end Go.Fip
namespace Go.Fip.B
open Go.Fip
theorem bnn {b : Bool} (h : ¬ (!b) = true) : b = true := by simpa using h
theorem bnt {b : Bool} (h : (!b) = true) : ¬ b = true := by simpa using h
def ents (ps : List (List UInt8)) (k : Nat) : List En := (ps.take k).map fun p => (entR p).1
theorem ents_len {ps : List (List UInt8)} {k : Nat} (h : k ≤ ps.length) : (ents ps k).length = k := by unfold ents; rw [List.length_map, List.length_take]; omega
theorem ents_succ {ps : List (List UInt8)} {k : Nat} (h : k < ps.length) : ents ps k ++ [(entR (nth ps (k : Int))).1] = ents ps (k + 1) := by
  unfold ents
  rw [List.take_succ_eq_append_getElem h, List.map_append, nth_nat h]; rfl
def allE (ps : List (List UInt8)) : Prop := ∀ i : Nat, i < ps.length - 2 → (entR (nth ps (i : Int))).2 = true
instance {ps : List (List UInt8)} : Decidable (allE ps) := by unfold allE; infer_instance
def sumP (ps : List (List UInt8)) : List UInt8 := nth ps ((ps.length - 2 : Nat) : Int)
def esOf (ps : List (List UInt8)) : List En := ents ps (ps.length - 2)
def shaped (ps : List (List UInt8)) : Prop := 2 ≤ ps.length ∧ nth ps ((ps.length - 1 : Nat) : Int) = []
instance {ps : List (List UInt8)} : Decidable (shaped ps) := by unfold shaped; infer_instance
def loadR (l : List UInt8) : List En × Int :=
  if 1000 < l.length then ([], 7) else if ¬ shaped (sp 10 l) then ([], 8) else if ¬ allE (sp 10 l) then ([], 8) else if ¬ Hx (sumP (sp 10 l)) then ([], 8)
  else if ¬ ck (esOf (sp 10 l)) = 0 then ([], ck (esOf (sp 10 l))) else if ¬ (hexV ((sumP (sp 10 l)).drop 4)) = (root (esOf (sp 10 l))).toNat then ([], 14) else (esOf (sp 10 l), 0)
section
variable {l : List UInt8}
theorem lo7 (h : 1000 < l.length) : loadR l = ([], 7) := if_pos h
theorem lo8a (h : ¬ 1000 < l.length) (h1 : ¬ shaped (sp 10 l)) : loadR l = ([], 8) := (if_neg h).trans (if_pos h1)
theorem lo8b (h : ¬ 1000 < l.length) (h1 : shaped (sp 10 l)) (h2 : ¬ allE (sp 10 l)) : loadR l = ([], 8) := (if_neg h).trans ((if_neg (fun c => c h1)).trans (if_pos h2))
theorem lo8c (h : ¬ 1000 < l.length) (h1 : shaped (sp 10 l)) (h2 : allE (sp 10 l)) (h3 : ¬ Hx (sumP (sp 10 l))) : loadR l = ([], 8) := (if_neg h).trans ((if_neg (fun c => c h1)).trans ((if_neg (fun c => c h2)).trans (if_pos h3)))
theorem lock (h : ¬ 1000 < l.length) (h1 : shaped (sp 10 l)) (h2 : allE (sp 10 l)) (h3 : Hx (sumP (sp 10 l))) (h4 : ¬ ck (esOf (sp 10 l)) = 0) : loadR l = ([], ck (esOf (sp 10 l))) :=
  (if_neg h).trans ((if_neg (fun c => c h1)).trans ((if_neg (fun c => c h2)).trans ((if_neg (fun c => c h3)).trans (if_pos h4))))
theorem lo14 (h : ¬ 1000 < l.length) (h1 : shaped (sp 10 l)) (h2 : allE (sp 10 l)) (h3 : Hx (sumP (sp 10 l))) (h4 : ck (esOf (sp 10 l)) = 0) (h5 : ¬ (hexV ((sumP (sp 10 l)).drop 4)) = (root (esOf (sp 10 l))).toNat) : loadR l = ([], 14) :=
  (if_neg h).trans ((if_neg (fun c => c h1)).trans ((if_neg (fun c => c h2)).trans ((if_neg (fun c => c h3)).trans ((if_neg (fun c => c h4)).trans (if_pos h5)))))
theorem look (h : ¬ 1000 < l.length) (h1 : shaped (sp 10 l)) (h2 : allE (sp 10 l)) (h3 : Hx (sumP (sp 10 l))) (h4 : ck (esOf (sp 10 l)) = 0) (h5 : (hexV ((sumP (sp 10 l)).drop 4)) = (root (esOf (sp 10 l))).toNat) : loadR l = (esOf (sp 10 l), 0) :=
  (if_neg h).trans ((if_neg (fun c => c h1)).trans ((if_neg (fun c => c h2)).trans ((if_neg (fun c => c h3)).trans ((if_neg (fun c => c h4)).trans (if_neg (fun c => c h5))))))
end
theorem nth_tk {α : Type} [Inhabited α] {l : List α} {k i : Nat} (h : i < k) (hk : k ≤ l.length) : nth (l.take k) (i : Int) = nth l (i : Int) := by
  rw [nth_nat (by rw [List.length_take]; omega), nth_nat (by omega), List.getElem_take]
theorem ents_tk {ps : List (List UInt8)} {k n : Nat} (h : k ≤ n) : ents (ps.take n) k = ents ps k := by unfold ents; rw [List.take_take, Nat.min_eq_left h]
theorem hx_lib {s : List UInt8} (h1 : Lib.hasPrefix s sumw = true) (h2 : (Lib.trimPrefix s sumw).length = 16) (h3 : Lib.trimS (Lib.trimPrefix s sumw) hexs = []) : Hx s ∧ Lib.trimPrefix s sumw = s.drop 4 := by
  have e : Lib.trimPrefix s sumw = s.drop 4 := by unfold Lib.trimPrefix; rw [if_pos h1]; rfl
  rw [e] at h2 h3
  rw [List.length_drop] at h2
  refine ⟨⟨by omega, ?_, trim_nil.1 h3⟩, e⟩
  have hp : sumw <+: s := List.isPrefixOf_iff_prefix.1 h1
  exact (List.prefix_iff_eq_take.1 hp).symm
theorem hx_lib' {s : List UInt8} (h : Hx s) : Lib.hasPrefix s sumw = true ∧ (Lib.trimPrefix s sumw).length = 16 ∧ Lib.trimS (Lib.trimPrefix s sumw) hexs = [] := by
  obtain ⟨h1, h2, h3⟩ := h
  have hp : Lib.hasPrefix s sumw = true := List.isPrefixOf_iff_prefix.2 (by rw [← h2]; exact List.take_prefix 4 s)
  have e : Lib.trimPrefix s sumw = s.drop 4 := by unfold Lib.trimPrefix; rw [if_pos hp]; rfl
  rw [e]
  exact ⟨hp, by rw [List.length_drop]; omega, trim_nil.2 h3⟩
end Go.Fip.B
namespace Go.Fip
open Go.Proofs Go.RowKit
theorem c40 {l : List UInt8} {w : World} (hG : Gl w) (hn : l.length ≤ 100000)  :
  Fn Tryz.prog 40 [(str l)].toArray w (fun u w => ∃ p, u = .tuple #[.agg #[p], .int .i64 (B.loadR l).2] ∧ Rd encE 5 p (B.loadR l).1 w) := by
 refine fn_of' (args := [(str l)]) Tryz.func40 rfl (ent Tryz.func40 (by kernel_rfl) rfl) rfl rfl (fun hH => ?_)
 refine seq (region ?_)
 refine op_alloc (z := (.agg #[(.slice none 0 0)])) (us := [(.slice none 0 0)]) (fun _ => by kernel_rfl) rfl rfl hH (fun b1 w2 hH3 => ?_)
 refine oA hH3 rfl rfl (ops_nil (thn_n (scope (seq (seq (region (oM hH3 rfl rfl ?_)))))))
 refine ops_y hH3 rfl rfl (yv_lenS Tryz.underlying9 rfl) ?_
 refine ops_y hH3 rfl rfl (yv_gtr rfl rfl) ?_
 refine ops_nil (thn_n ?_)
 by_cases hc4 : 1000 < (l.length : Int)
 ·skip
  refine cond_t rfl (dT hc4) ?_
  refine seq (region ?_)
  refine ops_y hH3 rfl rfl (yv_build (v := (.agg #[(.slice none 0 0)])) (us := []) (fun a ha => by simp []) (fun w => by kernel_rfl)) ?_
  refine op_store (n := 0) (j := 0) (us := [(.slice none 0 0)]) rfl rfl hH3 rfl T.sz24 rfl rfl rfl (by rfl) (fun w5 hH6 => ?_)
  refine oA hH6 rfl rfl (ops_nil (thn_n (ret (thn_r (scp_r ?_)))))
  refine fin (hH6.front (n := 1) rfl) (fun w' hf => (res2 rfl (rvA (cs := [(.slice none 0 0)]) rfl T.agg24 rfl (bx_cells (Heap.bxw hf (n := 1) rfl) (k := 0) rfl)) (show RV _ _ _ (.tmp 3) _ from rfl))) (fun w' hf => ?_)
  first | (rw [B.lo7 (by omega)]; exact ⟨_, rfl, Rd.nil⟩) | (rw [B.lo8a hl1 hns]; exact ⟨_, rfl, Rd.nil⟩) | (rw [B.lo8b hl1 hsh hnn]; exact ⟨_, rfl, Rd.nil⟩) | (rw [B.lo8c hl1 hsh hae hnx]; exact ⟨_, rfl, Rd.nil⟩) | (rw [B.lock hl1 hsh hae hhx (by rw [← hes]; exact hck)]; rw [← hes]; exact ⟨_, rfl, Rd.nil⟩) | (rw [B.lo14 hl1 hsh hae hhx (by rw [← hes]; exact hc0) (by rw [← hes]; exact hrn)]; exact ⟨_, rfl, Rd.nil⟩) | (rw [B.look hl1 hsh hae hhx (by rw [← hes]; exact hc0) (by rw [← hes]; exact hrt)]; rw [← hes]; exact ⟨_, rfl, Heap.rdw T.el22_encE hf (n := 0) rfl⟩)
 ·skip
  refine cond_f rfl (dF hc4) ?_
  refine skip (thn_n (seq ?_))
  have hl1 : ¬ 1000 < l.length := by omega
  refine region (oM hH3 rfl rfl ?_)
  refine op_fn rfl rfl rfl hH3 (c88 (l := l) (c := 10) (hG.now hH3 (n := 1) rfl) (by omega)) (fun u9 w7 lo10 hi11 hH8 hv12 => ?_)
  have hH13 := Heap.toOw hH8 (n := 0) rfl
  refine oA hH13 rfl rfl (ops_nil (thn_n (seq (seq ?_))))
  have hsl := B.sp_len 10 l
  have hsp := B.sp_len_pos 10 l
  refine region (oM hH13 rfl rfl ?_)
  refine ops_y hH13 rfl rfl (yv_len T.sl56 rfl (Heap.rdw T.el56_encT hH13 (n := 0) rfl).is) ?_
  refine ops_y hH13 rfl rfl (yv_lss rfl rfl) ?_
  refine oM hH13 rfl rfl ?_
  by_cases hc14 : ((B.sp 10 l).length : Int) < 2
  ·skip
   refine guard_no rfl rfl (dT hc14) rfl ?_
   refine guard_no rfl rfl (dT hc14) rfl ?_
   refine guard_no rfl rfl (dT hc14) rfl ?_
   refine guard_no rfl rfl (dT hc14) rfl ?_
   refine guard_no rfl rfl (dT hc14) rfl ?_
   refine guard_no rfl rfl (dT hc14) rfl ?_
   refine guard_no rfl rfl (dT hc14) rfl ?_
   refine ops_y hH13 rfl rfl (yv_pick_t rfl (dT hc14) rfl) ?_
   refine ops_nil (thn_n ?_)
   refine cond_t rfl rfl ?_
   refine seq ?_
   have hns : ¬ B.shaped (B.sp 10 l) := by first | exact fun h => absurd h.1 (by omega) | exact fun h => absurd h.2 (by rw [show (((B.sp 10 l).length - 1 : Nat) : Int) = ((B.sp 10 l).length : Int) - 1 by omega]; assumption)
   refine region ?_
   refine ops_y hH13 rfl rfl (yv_build (v := (.agg #[(.slice none 0 0)])) (us := []) (fun a ha => by simp []) (fun w => by kernel_rfl)) ?_
   refine op_store (n := 1) (j := 0) (us := [(.slice none 0 0)]) rfl rfl hH13 rfl T.sz24 rfl rfl rfl (by rfl) (fun w15 hH16 => ?_)
   refine oA hH16 rfl rfl (ops_nil (thn_n (ret (thn_r (scp_r ?_)))))
   have hH17 := (hH16.sub (sC sR))
   refine fin (hH17.front (n := 1) rfl) (fun w' hf => (res2 rfl (rvA (cs := [(.slice none 0 0)]) rfl T.agg24 rfl (bx_cells (Heap.bxw hf (n := 1) rfl) (k := 0) rfl)) (show RV _ _ _ (.tmp 3) _ from rfl))) (fun w' hf => ?_)
   first | (rw [B.lo7 (by omega)]; exact ⟨_, rfl, Rd.nil⟩) | (rw [B.lo8a hl1 hns]; exact ⟨_, rfl, Rd.nil⟩) | (rw [B.lo8b hl1 hsh hnn]; exact ⟨_, rfl, Rd.nil⟩) | (rw [B.lo8c hl1 hsh hae hnx]; exact ⟨_, rfl, Rd.nil⟩) | (rw [B.lock hl1 hsh hae hhx (by rw [← hes]; exact hck)]; rw [← hes]; exact ⟨_, rfl, Rd.nil⟩) | (rw [B.lo14 hl1 hsh hae hhx (by rw [← hes]; exact hc0) (by rw [← hes]; exact hrn)]; exact ⟨_, rfl, Rd.nil⟩) | (rw [B.look hl1 hsh hae hhx (by rw [← hes]; exact hc0) (by rw [← hes]; exact hrt)]; rw [← hes]; exact ⟨_, rfl, Heap.rdw T.el22_encE hf (n := 0) rfl⟩)
  ·skip
   refine guard_yes rfl rfl (dF hc14) ?_
   refine oM hH13 rfl rfl ?_
   refine guard_yes rfl rfl (dF hc14) ?_
   refine oM hH13 rfl rfl ?_
   refine guard_yes rfl rfl (dF hc14) ?_
   refine ops_y hH13 rfl rfl (yv_len T.sl56 rfl (Heap.rdw T.el56_encT hH13 (n := 0) rfl).is) ?_
   refine guard_yes rfl rfl (dF hc14) ?_
   refine ops_y hH13 rfl rfl (yv_sub rfl rfl (by omega)) ?_
   refine guard_yes rfl rfl (dF hc14) ?_
   refine ops_y hH13 rfl rfl (yv_index T.sl56 rfl rfl (Heap.rdw T.el56_encT hH13 (n := 0) rfl).is (by omega)) ?_
   refine guard_yes rfl rfl (dF hc14) ?_
   refine ops_y hH13 rfl rfl (yv_load T.one9 rfl (fun _ hw => Rd.at (Heap.rdw T.el56_encT hw (n := 0) rfl) (i := ((B.sp 10 l).length : Int) - 1) (by omega) (j := 0) rfl)) ?_
   refine guard_yes rfl rfl (dF hc14) ?_
   refine ops_y hH13 rfl rfl (yv_neqS rfl rfl) ?_
   refine ops_y hH13 rfl rfl (yv_pick_f rfl (dF hc14) rfl) ?_
   refine ops_nil (thn_n ?_)
   by_cases hc18 : (nth (B.sp 10 l) (((B.sp 10 l).length : Int) - 1)) = ([] : List UInt8)
   ·skip
    refine cond_f rfl (not_decide_n hc18) ?_
    refine skip (thn_n (seq ?_))
    have hsh : B.shaped (B.sp 10 l) := ⟨by omega, by rw [show (((B.sp 10 l).length - 1 : Nat) : Int) = ((B.sp 10 l).length : Int) - 1 by omega]; first | assumption | exact Decidable.not_not.1 ‹_›⟩
    obtain ⟨q, hq⟩ : ∃ q, q = (B.sp 10 l).length - 1 := ⟨_, rfl⟩
    have hsh2 := hsh.1
    have hLn : ((B.sp 10 l).take (q : Int).toNat).length = q := by rw [List.length_take, Int.toNat_natCast]; omega
    refine region (oM hH13 rfl rfl (oM hH13 rfl rfl ?_))
    refine ops_y hH13 rfl rfl (yv_len T.sl56 rfl (Heap.rdw T.el56_encT hH13 (n := 0) rfl).is) ?_
    refine ops_y hH13 rfl rfl (yv_cast (show _ = (q : Int) by omega) (yv_sub rfl rfl (by omega))) ?_
    refine ops_y hH13 rfl rfl (yv_cut_hi T.sl56 rfl rfl (Heap.rdw T.el56_encT hH13 (n := 0) rfl).is (by omega)) ?_
    refine oA hH13 rfl rfl (ops_nil (thn_n (seq (region ?_))))
    refine op_alloc (z := (.agg #[(.slice none 0 0)])) (us := [(.slice none 0 0)]) (fun _ => by kernel_rfl) rfl rfl hH13 (fun b19 w20 hH21 => ?_)
    refine ops_nil (thn_n (seq (label (thn_n (seq (seq (region (oM hH21 rfl rfl ?_))))))))
    refine ops_y hH21 rfl rfl (yv_len T.sl56 rfl (Rd.upto (Heap.rdw T.el56_encT hH21 (n := 1) rfl) (hi := (q : Int).toNat) (by omega)).is) ?_
    refine oM hH21 rfl rfl (ops_nil (thn_n (block ?_)))
    have hH22 := ow_nil (enc := encE) 38 5 hH21
    refine loop (S := Nat × Value × Nat × Nat) (fun (k, v_b5, lo_b5, hi_b5) => [(40, (.int .i64 (k : Int))), (2, (.pointer (some ⟨b1, 0, none⟩))), (4, (cutv u9 1 0 (q : Int).toNat)), (5, (.pointer (some ⟨b19, 0, none⟩))), (38, (cutv u9 1 0 (q : Int).toNat)), (39, (.int .i64 (((B.sp 10 l).take (q : Int).toNat).length : Int)))]) (fun (k, v_b5, lo_b5, hi_b5) w1 => Heap [ow lo_b5 hi_b5 38 5 encE v_b5 (B.ents ((B.sp 10 l).take (q : Int).toNat) k), bx b19 24 [v_b5], ow lo10 hi11 9 1 encT u9 (B.sp 10 l), bx b1 24 [(.slice none 0 0)], base w] w1 ∧ k < q ∧ ∀ i : Nat, i < k → (B.entR (nth ((B.sp 10 l).take (q : Int).toNat) (i : Int))).2 = true) (fun (k, v_b5, lo_b5, hi_b5) => q - k) (0, (.slice none 0 0), w20.heap.size, w20.heap.size) (uC rfl (uC rfl (uC rfl (uC rfl (uC rfl (uC rfl (Sub.nil _))))))) ?_ ?_
    ·exact ⟨(Heap.recast (n := 0) hH22 rfl (rfl)), by omega, fun i h => by omega⟩
    ·rintro ⟨k, v_b5, lo_b5, hi_b5⟩ w23 ⟨hH24, hk, hall⟩
     show Holds _ _ _ _ _ [(40, (.int .i64 (k : Int))), (2, (.pointer (some ⟨b1, 0, none⟩))), (4, (cutv u9 1 0 (q : Int).toNat)), (5, (.pointer (some ⟨b19, 0, none⟩))), (38, (cutv u9 1 0 (q : Int).toNat)), (39, (.int .i64 (((B.sp 10 l).take (q : Int).toNat).length : Int)))] _ _
     have hel := B.ents_len (ps := ((B.sp 10 l).take (q : Int).toNat)) (k := k) (by omega)
     have hpk := B.sp_nth_len (c := 10) (l := l) (k := k) (by omega)
     have hnk : nth ((B.sp 10 l).take (q : Int).toNat) (k : Int) = nth (B.sp 10 l) (k : Int) := by rw [Int.toNat_natCast]; exact B.nth_tk (by omega) (by omega)
     refine seq (region ?_)
     refine ops_y hH24 rfl rfl (yv_lss rfl rfl) ?_
     refine ops_nil (thn_n (seq ?_))
     have hc25 : (k : Int) < (((B.sp 10 l).take (q : Int).toNat).length : Int) := by omega
     refine cond_t rfl (dT hc25) ?_
     refine skip (thn_n (seq (block (seq (region (oM hH24 rfl rfl ?_))))))
     refine ops_y hH24 rfl rfl (yv_index T.sl56 rfl rfl (Rd.upto (Heap.rdw T.el56_encT hH24 (n := 2) rfl) (hi := (q : Int).toNat) (by omega)).is (by omega)) ?_
     refine ops_y hH24 rfl rfl (yv_load T.one9 rfl (fun _ hw => Rd.at (Rd.upto (Heap.rdw T.el56_encT hw (n := 2) rfl) (hi := (q : Int).toNat) (by omega)) (i := (k : Int)) (by omega) (j := 0) rfl)) ?_
     refine oA hH24 rfl rfl (oA hH24 rfl rfl (ops_nil (thn_n (seq (seq (region (oM hH24 rfl rfl (oM hH24 rfl rfl ?_))))))))
     refine ops_y hH24 rfl rfl (yv_len T.sl56 rfl (Rd.upto (Heap.rdw T.el56_encT hH24 (n := 2) rfl) (hi := (q : Int).toNat) (by omega)).is) ?_
     refine ops_y hH24 rfl rfl (yv_sub rfl rfl (by omega)) ?_
     refine ops_y hH24 rfl rfl (yv_eql rfl rfl) ?_
     refine ops_nil (thn_n ?_)
     by_cases hc26 : (k : Int) = ((((B.sp 10 l).take (q : Int).toNat).length : Int) - 1)
     ·skip
      refine cond_t rfl (dT hc26) ?_
      refine exit (thn_x (blk_on rfl (thn_x (lp_x (blk_here (thn_n (seq ?_)))))))
      have hke : k = (B.sp 10 l).length - 2 := by omega
      have hae : B.allE (B.sp 10 l) := fun i hi => by have h := hall i (by omega); rwa [Int.toNat_natCast, B.nth_tk (by omega) (by omega)] at h
      have hes : (B.ents ((B.sp 10 l).take (q : Int).toNat) k) = B.esOf (B.sp 10 l) := by rw [Int.toNat_natCast, B.ents_tk (by omega), hke]; rfl
      have hsq : (nth ((B.sp 10 l).take (q : Int).toNat) ((((B.sp 10 l).take (q : Int).toNat).length : Int) - 1)) = B.sumP (B.sp 10 l) := by rw [hLn, show (q : Int) - 1 = (((B.sp 10 l).length - 2 : Nat) : Int) by omega, Int.toNat_natCast, B.nth_tk (by omega) (by omega)]; rfl
      have hpl : (nth ((B.sp 10 l).take (q : Int).toNat) ((((B.sp 10 l).take (q : Int).toNat).length : Int) - 1)).length ≤ l.length := by rw [hsq]; exact B.sp_nth_len (by omega)
      refine region (oM hH24 rfl rfl (oM hH24 rfl rfl ?_))
      refine ops_y hH24 rfl rfl (yv_len T.sl56 rfl (Rd.upto (Heap.rdw T.el56_encT hH24 (n := 2) rfl) (hi := (q : Int).toNat) (by omega)).is) ?_
      refine ops_y hH24 rfl rfl (yv_sub rfl rfl (by omega)) ?_
      refine ops_y hH24 rfl rfl (yv_index T.sl56 rfl rfl (Rd.upto (Heap.rdw T.el56_encT hH24 (n := 2) rfl) (hi := (q : Int).toNat) (by omega)).is (by omega)) ?_
      refine ops_y hH24 rfl rfl (yv_load T.one9 rfl (fun _ hw => Rd.at (Rd.upto (Heap.rdw T.el56_encT hw (n := 2) rfl) (hi := (q : Int).toNat) (by omega)) (i := (((B.sp 10 l).take (q : Int).toNat).length : Int) - 1) (by omega) (j := 0) rfl)) ?_
      refine op_fnV rfl rfl rfl hH24 (c90 (l := (nth ((B.sp 10 l).take (q : Int).toNat) ((((B.sp 10 l).take (q : Int).toNat).length : Int) - 1))) (p := ([115, 117, 109, 32] : List UInt8))) (fun w27 hH28 => ?_)
      refine oM hH28 rfl rfl (ops_y hH28 rfl rfl (yv_extract rfl rfl) (ops_y hH28 rfl rfl (yv_extract rfl rfl) (oA hH28 rfl rfl (oA hH28 rfl rfl (ops_nil (thn_n (seq (seq ?_))))))))
      have hxl : B.Hx (nth ((B.sp 10 l).take (q : Int).toNat) ((((B.sp 10 l).take (q : Int).toNat).length : Int) - 1)) ↔ Lib.hasPrefix (nth ((B.sp 10 l).take (q : Int).toNat) ((((B.sp 10 l).take (q : Int).toNat).length : Int) - 1)) ([115, 117, 109, 32] : List UInt8) = true ∧ (Lib.trimPrefix (nth ((B.sp 10 l).take (q : Int).toNat) ((((B.sp 10 l).take (q : Int).toNat).length : Int) - 1)) ([115, 117, 109, 32] : List UInt8)).length = 16 ∧ Lib.trimS (Lib.trimPrefix (nth ((B.sp 10 l).take (q : Int).toNat) ((((B.sp 10 l).take (q : Int).toNat).length : Int) - 1)) ([115, 117, 109, 32] : List UInt8)) ([48, 49, 50, 51, 52, 53, 54, 55, 56, 57, 97, 98, 99, 100, 101, 102] : List UInt8) = [] := ⟨fun h => B.hx_lib' h, fun h => (B.hx_lib h.1 h.2.1 h.2.2).1⟩
      refine region (oM hH28 rfl rfl ?_)
      refine ops_y hH28 rfl rfl (yv_not rfl) ?_
      refine oM hH28 rfl rfl ?_
      by_cases hc29 : (!(Lib.hasPrefix (nth ((B.sp 10 l).take (q : Int).toNat) ((((B.sp 10 l).take (q : Int).toNat).length : Int) - 1)) ([115, 117, 109, 32] : List UInt8))) = true
      ·skip
       refine guard_no rfl rfl hc29 rfl ?_
       refine guard_no rfl rfl hc29 rfl ?_
       refine guard_no rfl rfl hc29 rfl ?_
       refine ops_y hH28 rfl rfl (yv_pick_t rfl hc29 rfl) ?_
       refine oM hH28 rfl rfl (guard_no rfl rfl rfl rfl (guard_no rfl rfl rfl rfl (guard_no rfl rfl rfl rfl ?_)))
       refine ops_y hH28 rfl rfl (yv_pick_t rfl rfl rfl) ?_
       refine ops_nil (thn_n ?_)
       refine cond_t rfl rfl ?_
       refine seq ?_
       have hnx : ¬ B.Hx (B.sumP (B.sp 10 l)) := by rw [← hsq, hxl]; rintro ⟨a1, a2, a3⟩; first | exact absurd a1 (B.bnt ‹_›) | (exfalso; omega) | exact absurd a3 ‹_›
       refine region ?_
       refine ops_y hH28 rfl rfl (yv_build (v := (.agg #[(.slice none 0 0)])) (us := []) (fun a ha => by simp []) (fun w => by kernel_rfl)) ?_
       refine op_store (n := 3) (j := 0) (us := [(.slice none 0 0)]) rfl rfl hH28 rfl T.sz24 rfl rfl rfl (by rfl) (fun w30 hH31 => ?_)
       refine oA hH31 rfl rfl (ops_nil (thn_n (ret (thn_r (scp_r ?_)))))
       have hH32 := (hH31.sub (sC (sC (sC sR))))
       refine fin (hH32.front (n := 1) rfl) (fun w' hf => (res2 rfl (rvA (cs := [(.slice none 0 0)]) rfl T.agg24 rfl (bx_cells (Heap.bxw hf (n := 1) rfl) (k := 0) rfl)) (show RV _ _ _ (.tmp 3) _ from rfl))) (fun w' hf => ?_)
       first | (rw [B.lo7 (by omega)]; exact ⟨_, rfl, Rd.nil⟩) | (rw [B.lo8a hl1 hns]; exact ⟨_, rfl, Rd.nil⟩) | (rw [B.lo8b hl1 hsh hnn]; exact ⟨_, rfl, Rd.nil⟩) | (rw [B.lo8c hl1 hsh hae hnx]; exact ⟨_, rfl, Rd.nil⟩) | (rw [B.lock hl1 hsh hae hhx (by rw [← hes]; exact hck)]; rw [← hes]; exact ⟨_, rfl, Rd.nil⟩) | (rw [B.lo14 hl1 hsh hae hhx (by rw [← hes]; exact hc0) (by rw [← hes]; exact hrn)]; exact ⟨_, rfl, Rd.nil⟩) | (rw [B.look hl1 hsh hae hhx (by rw [← hes]; exact hc0) (by rw [← hes]; exact hrt)]; rw [← hes]; exact ⟨_, rfl, Heap.rdw T.el22_encE hf (n := 0) rfl⟩)
      ·skip
       refine guard_yes rfl rfl (Bool.eq_false_iff.2 hc29) ?_
       refine oM hH28 rfl rfl ?_
       refine guard_yes rfl rfl (Bool.eq_false_iff.2 hc29) ?_
       refine ops_y hH28 rfl rfl (yv_lenS Tryz.underlying9 rfl) ?_
       refine guard_yes rfl rfl (Bool.eq_false_iff.2 hc29) ?_
       refine ops_y hH28 rfl rfl (yv_neq rfl rfl) ?_
       refine ops_y hH28 rfl rfl (yv_pick_f rfl (Bool.eq_false_iff.2 hc29) rfl) ?_
       refine oM hH28 rfl rfl ?_
       by_cases hc33 : ((Lib.trimPrefix (nth ((B.sp 10 l).take (q : Int).toNat) ((((B.sp 10 l).take (q : Int).toNat).length : Int) - 1)) ([115, 117, 109, 32] : List UInt8)).length : Int) = 16
       ·skip
        refine guard_yes rfl rfl (not_decide_n hc33) ?_
        refine oM hH28 rfl rfl ?_
        refine guard_yes rfl rfl (not_decide_n hc33) ?_
        refine op_fnV rfl rfl rfl hH28 (c91 (l := (Lib.trimPrefix (nth ((B.sp 10 l).take (q : Int).toNat) ((((B.sp 10 l).take (q : Int).toNat).length : Int) - 1)) ([115, 117, 109, 32] : List UInt8))) (cs := ([48, 49, 50, 51, 52, 53, 54, 55, 56, 57, 97, 98, 99, 100, 101, 102] : List UInt8)) (by omega) (by decide) (by decide)) (fun w34 hH35 => ?_)
        refine guard_yes rfl rfl (not_decide_n hc33) ?_
        refine ops_y hH35 rfl rfl (yv_neqS rfl rfl) ?_
        refine ops_y hH35 rfl rfl (yv_pick_f rfl (not_decide_n hc33) rfl) ?_
        refine ops_nil (thn_n ?_)
        by_cases hc36 : (Lib.trimS (Lib.trimPrefix (nth ((B.sp 10 l).take (q : Int).toNat) ((((B.sp 10 l).take (q : Int).toNat).length : Int) - 1)) ([115, 117, 109, 32] : List UInt8)) ([48, 49, 50, 51, 52, 53, 54, 55, 56, 57, 97, 98, 99, 100, 101, 102] : List UInt8)) = ([] : List UInt8)
        ·skip
         refine cond_f rfl (not_decide_n hc36) ?_
         refine skip (thn_n (seq ?_))
         by_cases hc37 : B.ck (B.ents ((B.sp 10 l).take (q : Int).toNat) k) = 0
         ·skip
          have hc0 : B.ck (B.ents ((B.sp 10 l).take (q : Int).toNat) k) = 0 := ‹_›
          have hbk := B.ck_iff.1 hc0
          have hin0 := hbk.2.1
          have hl24 := hbk.1
          have hx3 : Lib.hasPrefix (nth ((B.sp 10 l).take (q : Int).toNat) ((((B.sp 10 l).take (q : Int).toNat).length : Int) - 1)) ([115, 117, 109, 32] : List UInt8) = true ∧ (Lib.trimPrefix (nth ((B.sp 10 l).take (q : Int).toNat) ((((B.sp 10 l).take (q : Int).toNat).length : Int) - 1)) ([115, 117, 109, 32] : List UInt8)).length = 16 ∧ Lib.trimS (Lib.trimPrefix (nth ((B.sp 10 l).take (q : Int).toNat) ((((B.sp 10 l).take (q : Int).toNat).length : Int) - 1)) ([115, 117, 109, 32] : List UInt8)) ([48, 49, 50, 51, 52, 53, 54, 55, 56, 57, 97, 98, 99, 100, 101, 102] : List UInt8) = [] := ⟨by first | assumption | exact B.bnn ‹_›, by omega, by first | assumption | exact Decidable.not_not.1 ‹_›⟩
          have hhx0 : B.Hx (nth ((B.sp 10 l).take (q : Int).toNat) ((((B.sp 10 l).take (q : Int).toNat).length : Int) - 1)) := hxl.2 hx3
          have htp : (Lib.trimPrefix (nth ((B.sp 10 l).take (q : Int).toNat) ((((B.sp 10 l).take (q : Int).toNat).length : Int) - 1)) ([115, 117, 109, 32] : List UInt8)) = (B.sumP (B.sp 10 l)).drop 4 := by rw [← hsq]; exact (B.hx_lib hx3.1 hx3.2.1 hx3.2.2).2
          have hhx : B.Hx (B.sumP (B.sp 10 l)) := by rw [← hsq]; exact hhx0
          refine region ?_
          refine ops_y hH35 rfl rfl (yv_loadA (cs := [v_b5]) T.agg24 rfl rfl (fun _ hw => Heap.cellsw hw (n := 1) rfl (k := 0) rfl)) ?_
          refine op_fn rfl rfl rfl hH35 (c56g (Heap.rdw T.el22_encE hH35 (n := 0) rfl) (by omega) (hG.now hH35 (n := 4) rfl) hc0) (fun u40 w38 lo41 hi42 hH39 hv43 => ?_)
          obtain ⟨dbD45, hu, hrowD45⟩ := hv43
          subst hu
          obtain ⟨mbD45, esD45, clD45, mD45, hentsD45, hwholeD45, hH44⟩ := Heap.fixMap hH39 (n := 0) rfl (fun w' h => by obtain ⟨rb', e, h⟩ := h; cases e; exact h)
          refine oM hH44 rfl rfl (ops_y hH44 rfl rfl (yv_extract rfl rfl) (ops_y hH44 rfl rfl (yv_extract rfl rfl) (oA hH44 rfl rfl (oA hH44 rfl rfl (ops_nil (thn_n (seq (block (seq ?_)))))))))
          refine region (oM hH44 rfl rfl ?_)
          refine ops_y hH44 rfl rfl (yv_neq rfl rfl) ?_
          refine oA hH44 rfl rfl (ops_nil (thn_n ?_))
          refine cond_f rfl rfl ?_
          refine seq (region (oM hH44 rfl rfl ?_))
          refine op_fnV rfl rfl rfl hH44 (c70 ⟨((show RowAt 138 dbD45 v_b5 mbD45 esD45 clD45 _ from hH44.get (n := 0) rfl).1), (Heap.rdw T.el22_encE hH44 (n := 1) rfl)⟩ ((hentsD45.mp (show RowAt 138 dbD45 v_b5 mbD45 esD45 clD45 _ from hH44.get (n := 0) rfl).2)) hwholeD45) (fun w46 hH47 => ?_)
          refine op_fnV rfl rfl rfl hH47 (c86 (x := B.root (B.ents ((B.sp 10 l).take (q : Int).toNat) k)) (hG.now hH47 (n := 5) rfl)) (fun w48 hH49 => ?_)
          refine oM hH49 rfl rfl ?_
          refine ops_y hH49 rfl rfl (yv_neqS rfl rfl) ?_
          refine oA hH49 rfl rfl (ops_nil (thn_n ?_))
          by_cases hc50 : (B.hex (B.root (B.ents ((B.sp 10 l).take (q : Int).toNat) k))) = (Lib.trimPrefix (nth ((B.sp 10 l).take (q : Int).toNat) ((((B.sp 10 l).take (q : Int).toNat).length : Int) - 1)) ([115, 117, 109, 32] : List UInt8))
          ·skip
           refine cond_f rfl (not_decide_n hc50) ?_
           refine skip (blk_n (thn_n (seq ?_)))
           have hvi := B.hexV_iff (x := B.root (B.ents ((B.sp 10 l).take (q : Int).toNat) k)) hhx.2.2 (by rw [List.length_drop]; have := hhx.1; omega)
           have hrt : B.hexV ((B.sumP (B.sp 10 l)).drop 4) = (B.root (B.ents ((B.sp 10 l).take (q : Int).toNat) k)).toNat := by rw [hvi, ← htp]; first | assumption | (symm; assumption) | exact Decidable.not_not.1 ‹_› | exact (Decidable.not_not.1 ‹_›).symm
           refine region ?_
           refine ops_y hH49 rfl rfl (yv_loadA (cs := [v_b5]) T.agg24 rfl rfl (fun _ hw => Heap.cellsw hw (n := 2) rfl (k := 0) rfl)) ?_
           refine op_store (n := 4) (j := 0) (us := [v_b5]) rfl rfl hH49 rfl T.sz24 rfl rfl rfl (all_one (SliceIs.one1 (Heap.rdw T.el22_encE hH49 (n := 1) rfl).is) rfl) (fun w51 hH52 => ?_)
           refine oA hH52 rfl rfl (ops_nil (thn_n (ret (scp_r ?_))))
           have hH53 := (hH52.sub (sC (List.Sublist.cons_cons _ (sC (sC sR)))))
           refine fin (hH53.front (n := 2) rfl) (fun w' hf => (res2 rfl (rvA (cs := [v_b5]) rfl T.agg24 rfl (bx_cells (Heap.bxw hf (n := 2) rfl) (k := 0) rfl)) (show RV _ _ _ (.tmp 3) _ from rfl))) (fun w' hf => ?_)
           first | (rw [B.lo7 (by omega)]; exact ⟨_, rfl, Rd.nil⟩) | (rw [B.lo8a hl1 hns]; exact ⟨_, rfl, Rd.nil⟩) | (rw [B.lo8b hl1 hsh hnn]; exact ⟨_, rfl, Rd.nil⟩) | (rw [B.lo8c hl1 hsh hae hnx]; exact ⟨_, rfl, Rd.nil⟩) | (rw [B.lock hl1 hsh hae hhx (by rw [← hes]; exact hck)]; rw [← hes]; exact ⟨_, rfl, Rd.nil⟩) | (rw [B.lo14 hl1 hsh hae hhx (by rw [← hes]; exact hc0) (by rw [← hes]; exact hrn)]; exact ⟨_, rfl, Rd.nil⟩) | (rw [B.look hl1 hsh hae hhx (by rw [← hes]; exact hc0) (by rw [← hes]; exact hrt)]; rw [← hes]; exact ⟨_, rfl, Heap.rdw T.el22_encE hf (n := 0) rfl⟩)
          ·skip
           refine cond_t rfl (not_decide_t hc50) ?_
           refine seq ?_
           have hvi := B.hexV_iff (x := B.root (B.ents ((B.sp 10 l).take (q : Int).toNat) k)) hhx.2.2 (by rw [List.length_drop]; have := hhx.1; omega)
           have hrn : ¬ B.hexV ((B.sumP (B.sp 10 l)).drop 4) = (B.root (B.ents ((B.sp 10 l).take (q : Int).toNat) k)).toNat := by rw [hvi, ← htp]; first | exact fun h => absurd h.symm ‹_› | exact fun h => absurd h ‹_›
           refine region ?_
           refine ops_y hH49 rfl rfl (yv_build (v := (.agg #[(.slice none 0 0)])) (us := []) (fun a ha => by simp []) (fun w => by kernel_rfl)) ?_
           refine op_store (n := 4) (j := 0) (us := [(.slice none 0 0)]) rfl rfl hH49 rfl T.sz24 rfl rfl rfl (by rfl) (fun w54 hH55 => ?_)
           refine oA hH55 rfl rfl (ops_nil (thn_n (ret (blk_r (thn_r (scp_r ?_))))))
           have hH56 := (hH55.sub (sC (sC (sC (sC sR)))))
           refine fin (hH56.front (n := 1) rfl) (fun w' hf => (res2 rfl (rvA (cs := [(.slice none 0 0)]) rfl T.agg24 rfl (bx_cells (Heap.bxw hf (n := 1) rfl) (k := 0) rfl)) (show RV _ _ _ (.tmp 3) _ from rfl))) (fun w' hf => ?_)
           first | (rw [B.lo7 (by omega)]; exact ⟨_, rfl, Rd.nil⟩) | (rw [B.lo8a hl1 hns]; exact ⟨_, rfl, Rd.nil⟩) | (rw [B.lo8b hl1 hsh hnn]; exact ⟨_, rfl, Rd.nil⟩) | (rw [B.lo8c hl1 hsh hae hnx]; exact ⟨_, rfl, Rd.nil⟩) | (rw [B.lock hl1 hsh hae hhx (by rw [← hes]; exact hck)]; rw [← hes]; exact ⟨_, rfl, Rd.nil⟩) | (rw [B.lo14 hl1 hsh hae hhx (by rw [← hes]; exact hc0) (by rw [← hes]; exact hrn)]; exact ⟨_, rfl, Rd.nil⟩) | (rw [B.look hl1 hsh hae hhx (by rw [← hes]; exact hc0) (by rw [← hes]; exact hrt)]; rw [← hes]; exact ⟨_, rfl, Heap.rdw T.el22_encE hf (n := 0) rfl⟩)
         ·skip
          have hcn : ¬ B.ck (B.ents ((B.sp 10 l).take (q : Int).toNat) k) = 0 := ‹_›
          have hck := hcn
          have hx3 : Lib.hasPrefix (nth ((B.sp 10 l).take (q : Int).toNat) ((((B.sp 10 l).take (q : Int).toNat).length : Int) - 1)) ([115, 117, 109, 32] : List UInt8) = true ∧ (Lib.trimPrefix (nth ((B.sp 10 l).take (q : Int).toNat) ((((B.sp 10 l).take (q : Int).toNat).length : Int) - 1)) ([115, 117, 109, 32] : List UInt8)).length = 16 ∧ Lib.trimS (Lib.trimPrefix (nth ((B.sp 10 l).take (q : Int).toNat) ((((B.sp 10 l).take (q : Int).toNat).length : Int) - 1)) ([115, 117, 109, 32] : List UInt8)) ([48, 49, 50, 51, 52, 53, 54, 55, 56, 57, 97, 98, 99, 100, 101, 102] : List UInt8) = [] := ⟨by first | assumption | exact B.bnn ‹_›, by omega, by first | assumption | exact Decidable.not_not.1 ‹_›⟩
          have hhx0 : B.Hx (nth ((B.sp 10 l).take (q : Int).toNat) ((((B.sp 10 l).take (q : Int).toNat).length : Int) - 1)) := hxl.2 hx3
          have htp : (Lib.trimPrefix (nth ((B.sp 10 l).take (q : Int).toNat) ((((B.sp 10 l).take (q : Int).toNat).length : Int) - 1)) ([115, 117, 109, 32] : List UInt8)) = (B.sumP (B.sp 10 l)).drop 4 := by rw [← hsq]; exact (B.hx_lib hx3.1 hx3.2.1 hx3.2.2).2
          have hhx : B.Hx (B.sumP (B.sp 10 l)) := by rw [← hsq]; exact hhx0
          refine region ?_
          refine ops_y hH35 rfl rfl (yv_loadA (cs := [v_b5]) T.agg24 rfl rfl (fun _ hw => Heap.cellsw hw (n := 1) rfl (k := 0) rfl)) ?_
          refine op_fnV rfl rfl rfl hH35 (c56b (Heap.rdw T.el22_encE hH35 (n := 0) rfl) (by omega) hcn) (fun w57 hH58 => ?_)
          refine oM hH58 rfl rfl (ops_y hH58 rfl rfl (yv_extract rfl rfl) (ops_y hH58 rfl rfl (yv_extract rfl rfl) (oA hH58 rfl rfl (oA hH58 rfl rfl (ops_nil (thn_n (seq (block (seq ?_)))))))))
          refine region (oM hH58 rfl rfl ?_)
          refine ops_y hH58 rfl rfl (yv_neq rfl rfl) ?_
          refine oA hH58 rfl rfl (ops_nil (thn_n ?_))
          have hc59 : ¬ ((B.ck (B.ents ((B.sp 10 l).take (q : Int).toNat) k)) = 0) := hcn
          refine cond_t rfl (not_decide_t hc59) ?_
          refine seq (region ?_)
          refine ops_y hH58 rfl rfl (yv_build (v := (.agg #[(.slice none 0 0)])) (us := []) (fun a ha => by simp []) (fun w => by kernel_rfl)) ?_
          refine oM hH58 rfl rfl ?_
          refine op_store (n := 3) (j := 0) (us := [(.slice none 0 0)]) rfl rfl hH58 rfl T.sz24 rfl rfl rfl (by rfl) (fun w60 hH61 => ?_)
          refine oA hH61 rfl rfl (ops_nil (thn_n (ret (blk_r (thn_r (scp_r ?_))))))
          have hH62 := (hH61.sub (sC (sC (sC sR))))
          refine fin (hH62.front (n := 1) rfl) (fun w' hf => (res2 rfl (rvA (cs := [(.slice none 0 0)]) rfl T.agg24 rfl (bx_cells (Heap.bxw hf (n := 1) rfl) (k := 0) rfl)) (show RV _ _ _ (.tmp 3) _ from rfl))) (fun w' hf => ?_)
          first | (rw [B.lo7 (by omega)]; exact ⟨_, rfl, Rd.nil⟩) | (rw [B.lo8a hl1 hns]; exact ⟨_, rfl, Rd.nil⟩) | (rw [B.lo8b hl1 hsh hnn]; exact ⟨_, rfl, Rd.nil⟩) | (rw [B.lo8c hl1 hsh hae hnx]; exact ⟨_, rfl, Rd.nil⟩) | (rw [B.lock hl1 hsh hae hhx (by rw [← hes]; exact hck)]; rw [← hes]; exact ⟨_, rfl, Rd.nil⟩) | (rw [B.lo14 hl1 hsh hae hhx (by rw [← hes]; exact hc0) (by rw [← hes]; exact hrn)]; exact ⟨_, rfl, Rd.nil⟩) | (rw [B.look hl1 hsh hae hhx (by rw [← hes]; exact hc0) (by rw [← hes]; exact hrt)]; rw [← hes]; exact ⟨_, rfl, Heap.rdw T.el22_encE hf (n := 0) rfl⟩)
        ·skip
         refine cond_t rfl (not_decide_t hc36) ?_
         refine seq ?_
         have hnx : ¬ B.Hx (B.sumP (B.sp 10 l)) := by rw [← hsq, hxl]; rintro ⟨a1, a2, a3⟩; first | exact absurd a1 (B.bnt ‹_›) | (exfalso; omega) | exact absurd a3 ‹_›
         refine region ?_
         refine ops_y hH35 rfl rfl (yv_build (v := (.agg #[(.slice none 0 0)])) (us := []) (fun a ha => by simp []) (fun w => by kernel_rfl)) ?_
         refine op_store (n := 3) (j := 0) (us := [(.slice none 0 0)]) rfl rfl hH35 rfl T.sz24 rfl rfl rfl (by rfl) (fun w63 hH64 => ?_)
         refine oA hH64 rfl rfl (ops_nil (thn_n (ret (thn_r (scp_r ?_)))))
         have hH65 := (hH64.sub (sC (sC (sC sR))))
         refine fin (hH65.front (n := 1) rfl) (fun w' hf => (res2 rfl (rvA (cs := [(.slice none 0 0)]) rfl T.agg24 rfl (bx_cells (Heap.bxw hf (n := 1) rfl) (k := 0) rfl)) (show RV _ _ _ (.tmp 3) _ from rfl))) (fun w' hf => ?_)
         first | (rw [B.lo7 (by omega)]; exact ⟨_, rfl, Rd.nil⟩) | (rw [B.lo8a hl1 hns]; exact ⟨_, rfl, Rd.nil⟩) | (rw [B.lo8b hl1 hsh hnn]; exact ⟨_, rfl, Rd.nil⟩) | (rw [B.lo8c hl1 hsh hae hnx]; exact ⟨_, rfl, Rd.nil⟩) | (rw [B.lock hl1 hsh hae hhx (by rw [← hes]; exact hck)]; rw [← hes]; exact ⟨_, rfl, Rd.nil⟩) | (rw [B.lo14 hl1 hsh hae hhx (by rw [← hes]; exact hc0) (by rw [← hes]; exact hrn)]; exact ⟨_, rfl, Rd.nil⟩) | (rw [B.look hl1 hsh hae hhx (by rw [← hes]; exact hc0) (by rw [← hes]; exact hrt)]; rw [← hes]; exact ⟨_, rfl, Heap.rdw T.el22_encE hf (n := 0) rfl⟩)
       ·skip
        refine guard_no rfl rfl (not_decide_t hc33) rfl ?_
        refine guard_no rfl rfl (not_decide_t hc33) rfl ?_
        refine guard_no rfl rfl (not_decide_t hc33) rfl ?_
        refine ops_y hH28 rfl rfl (yv_pick_t rfl (not_decide_t hc33) rfl) ?_
        refine ops_nil (thn_n ?_)
        refine cond_t rfl rfl ?_
        refine seq ?_
        have hnx : ¬ B.Hx (B.sumP (B.sp 10 l)) := by rw [← hsq, hxl]; rintro ⟨a1, a2, a3⟩; first | exact absurd a1 (B.bnt ‹_›) | (exfalso; omega) | exact absurd a3 ‹_›
        refine region ?_
        refine ops_y hH28 rfl rfl (yv_build (v := (.agg #[(.slice none 0 0)])) (us := []) (fun a ha => by simp []) (fun w => by kernel_rfl)) ?_
        refine op_store (n := 3) (j := 0) (us := [(.slice none 0 0)]) rfl rfl hH28 rfl T.sz24 rfl rfl rfl (by rfl) (fun w66 hH67 => ?_)
        refine oA hH67 rfl rfl (ops_nil (thn_n (ret (thn_r (scp_r ?_)))))
        have hH68 := (hH67.sub (sC (sC (sC sR))))
        refine fin (hH68.front (n := 1) rfl) (fun w' hf => (res2 rfl (rvA (cs := [(.slice none 0 0)]) rfl T.agg24 rfl (bx_cells (Heap.bxw hf (n := 1) rfl) (k := 0) rfl)) (show RV _ _ _ (.tmp 3) _ from rfl))) (fun w' hf => ?_)
        first | (rw [B.lo7 (by omega)]; exact ⟨_, rfl, Rd.nil⟩) | (rw [B.lo8a hl1 hns]; exact ⟨_, rfl, Rd.nil⟩) | (rw [B.lo8b hl1 hsh hnn]; exact ⟨_, rfl, Rd.nil⟩) | (rw [B.lo8c hl1 hsh hae hnx]; exact ⟨_, rfl, Rd.nil⟩) | (rw [B.lock hl1 hsh hae hhx (by rw [← hes]; exact hck)]; rw [← hes]; exact ⟨_, rfl, Rd.nil⟩) | (rw [B.lo14 hl1 hsh hae hhx (by rw [← hes]; exact hc0) (by rw [← hes]; exact hrn)]; exact ⟨_, rfl, Rd.nil⟩) | (rw [B.look hl1 hsh hae hhx (by rw [← hes]; exact hc0) (by rw [← hes]; exact hrt)]; rw [← hes]; exact ⟨_, rfl, Heap.rdw T.el22_encE hf (n := 0) rfl⟩)
     ·skip
      refine cond_f rfl (dF hc26) ?_
      refine skip (thn_n (seq ?_))
      have hpn : (nth ((B.sp 10 l).take (q : Int).toNat) (k : Int)).length ≤ l.length := by rw [hnk]; exact hpk
      refine region (oM hH24 rfl rfl ?_)
      refine op_fnV rfl rfl rfl hH24 (c89 (l := (nth ((B.sp 10 l).take (q : Int).toNat) (k : Int))) (hG.now hH24 (n := 4) rfl) (by omega)) (fun w69 hH70 => ?_)
      refine oM hH70 rfl rfl (ops_y hH70 rfl rfl (yv_extract rfl rfl) (ops_y hH70 rfl rfl (yv_extract rfl rfl) ?_))
      refine op_alloc (z := (.agg #[(.int .i64 0), (.int .i64 0), (.int .i64 0), (.int .i64 0), (.int .i64 0)])) (us := [(.int .i64 0), (.int .i64 0), (.int .i64 0), (.int .i64 0), (.int .i64 0)]) (fun _ => by kernel_rfl) rfl rfl hH70 (fun b71 w72 hH73 => ?_)
      refine op_store (n := 0) (j := 0) (us := [(.int .i64 ((B.entR (nth ((B.sp 10 l).take (q : Int).toNat) (k : Int))).1.n)), (.int .i64 ((B.entR (nth ((B.sp 10 l).take (q : Int).toNat) (k : Int))).1.d)), (.int .i64 ((B.entR (nth ((B.sp 10 l).take (q : Int).toNat) (k : Int))).1.f)), (.int .i64 ((B.entR (nth ((B.sp 10 l).take (q : Int).toNat) (k : Int))).1.t)), (.int .i64 ((B.entR (nth ((B.sp 10 l).take (q : Int).toNat) (k : Int))).1.a))]) rfl rfl hH73 rfl T.sz38 rfl rfl rfl (by rfl) (fun w74 hH75 => ?_)
      refine oA hH75 rfl rfl (ops_nil (thn_n (seq (seq (region (oM hH75 rfl rfl ?_))))))
      refine ops_y hH75 rfl rfl (yv_not rfl) ?_
      refine ops_nil (thn_n ?_)
      by_cases hc76 : (!((B.entR (nth ((B.sp 10 l).take (q : Int).toNat) (k : Int))).2)) = true
      ·skip
       refine cond_t rfl hc76 ?_
       refine seq ?_
       have hnn : ¬ B.allE (B.sp 10 l) := fun h => absurd (h k (by omega)) (by rw [← hnk]; first | assumption | exact B.bnt ‹_›)
       refine region ?_
       refine ops_y hH75 rfl rfl (yv_build (v := (.agg #[(.slice none 0 0)])) (us := []) (fun a ha => by simp []) (fun w => by kernel_rfl)) ?_
       refine op_store (n := 4) (j := 0) (us := [(.slice none 0 0)]) rfl rfl hH75 rfl T.sz24 rfl rfl rfl (by rfl) (fun w77 hH78 => ?_)
       refine oA hH78 rfl rfl (ops_nil (thn_n (ret (thn_r (blk_r (thn_r (lp_r (blk_r (thn_r ?_)))))))))
       refine scp_r ?_
       have hH79 := (hH78.sub (sC (sC (sC (sC sR)))))
       refine fin (hH79.front (n := 1) rfl) (fun w' hf => (res2 rfl (rvA (cs := [(.slice none 0 0)]) rfl T.agg24 rfl (bx_cells (Heap.bxw hf (n := 1) rfl) (k := 0) rfl)) (show RV _ _ _ (.tmp 3) _ from rfl))) (fun w' hf => ?_)
       first | (rw [B.lo7 (by omega)]; exact ⟨_, rfl, Rd.nil⟩) | (rw [B.lo8a hl1 hns]; exact ⟨_, rfl, Rd.nil⟩) | (rw [B.lo8b hl1 hsh hnn]; exact ⟨_, rfl, Rd.nil⟩) | (rw [B.lo8c hl1 hsh hae hnx]; exact ⟨_, rfl, Rd.nil⟩) | (rw [B.lock hl1 hsh hae hhx (by rw [← hes]; exact hck)]; rw [← hes]; exact ⟨_, rfl, Rd.nil⟩) | (rw [B.lo14 hl1 hsh hae hhx (by rw [← hes]; exact hc0) (by rw [← hes]; exact hrn)]; exact ⟨_, rfl, Rd.nil⟩) | (rw [B.look hl1 hsh hae hhx (by rw [← hes]; exact hc0) (by rw [← hes]; exact hrt)]; rw [← hes]; exact ⟨_, rfl, Heap.rdw T.el22_encE hf (n := 0) rfl⟩)
      ·skip
       refine cond_f rfl (Bool.eq_false_iff.2 hc76) ?_
       refine skip (thn_n ?_)
       have hok : (B.entR (nth ((B.sp 10 l).take (q : Int).toNat) (k : Int))).2 = true := by first | assumption | exact B.bnn ‹_›
       refine region ?_
       refine ops_y hH75 rfl rfl (yv_field T.f24_0 rfl) ?_
       refine ops_y hH75 rfl rfl (yv_load T.one22 rfl (fun _ hw => Heap.cellw hw (n := 2) rfl rfl)) ?_
       refine ops_y hH75 rfl rfl (yv_loadA (cs := [(.int .i64 ((B.entR (nth ((B.sp 10 l).take (q : Int).toNat) (k : Int))).1.n)), (.int .i64 ((B.entR (nth ((B.sp 10 l).take (q : Int).toNat) (k : Int))).1.d)), (.int .i64 ((B.entR (nth ((B.sp 10 l).take (q : Int).toNat) (k : Int))).1.f)), (.int .i64 ((B.entR (nth ((B.sp 10 l).take (q : Int).toNat) (k : Int))).1.t)), (.int .i64 ((B.entR (nth ((B.sp 10 l).take (q : Int).toNat) (k : Int))).1.a))]) T.agg38 rfl rfl (fun _ hw => Heap.cellsw hw (n := 0) rfl (k := 0) rfl)) ?_
       refine op_lit (us := [(0, (.agg #[(.int .i64 ((B.entR (nth ((B.sp 10 l).take (q : Int).toNat) (k : Int))).1.n)), (.int .i64 ((B.entR (nth ((B.sp 10 l).take (q : Int).toNat) (k : Int))).1.d)), (.int .i64 ((B.entR (nth ((B.sp 10 l).take (q : Int).toNat) (k : Int))).1.f)), (.int .i64 ((B.entR (nth ((B.sp 10 l).take (q : Int).toNat) (k : Int))).1.t)), (.int .i64 ((B.entR (nth ((B.sp 10 l).take (q : Int).toNat) (k : Int))).1.a))]))]) T.el22_encE [(B.entR (nth ((B.sp 10 l).take (q : Int).toNat) (k : Int))).1] rfl (by decide) rfl (fun a ha => by simp [ha.ev (show ev _ (.tmp 60) = some _ from rfl)]) (fun w => by kernel_rfl) hH75 (fun u80 lo82 hi83 w81 hH84 => ?_)
       refine op_append (n := 2) T.el22_encE rfl rfl rfl hH84 rfl (Heap.rdw T.el22_encE hH84 (n := 0) rfl) (by first | omega | (simp only [List.length_append, List.length_cons, List.length_nil]; omega)) (fun u85 lo87 hi88 w86 hH89 => ?_)
       refine ops_y hH89 rfl rfl (yv_field T.f24_0 rfl) ?_
       refine op_store (n := 3) (j := 0) (us := [u85]) rfl rfl hH89 rfl T.sz22 (SliceIs.cells (Heap.rdw T.el22_encE hH89 (n := 2) rfl).is) rfl rfl (SliceIs.one (Heap.rdw T.el22_encE hH89 (n := 2) rfl).is) (fun w90 hH91 => ?_)
       refine ops_nil (blk_n (thn_n (region ?_)))
       refine ops_y hH91 rfl rfl (yv_add rfl rfl (by omega)) ?_
       refine oM hH91 rfl rfl (ops_nil ?_)
       have hH92 := (hH91.sub (sC (sC sR)))
       refine lp_n (k + 1, u85, lo87, hi88) (uC rfl (uC rfl (uC rfl (uC rfl (uC rfl (uC rfl (Sub.nil _))))))) ?_ ?_
       ·exact ⟨(Heap.recast (n := 0) hH92 rfl (B.ents_succ (by omega))), by omega, B.all_snoc hall hok⟩
       ·first | (dsimp only; omega) | (show _ < _; omega)
   ·skip
    refine cond_t rfl (not_decide_t hc18) ?_
    refine seq ?_
    have hns : ¬ B.shaped (B.sp 10 l) := by first | exact fun h => absurd h.1 (by omega) | exact fun h => absurd h.2 (by rw [show (((B.sp 10 l).length - 1 : Nat) : Int) = ((B.sp 10 l).length : Int) - 1 by omega]; assumption)
    refine region ?_
    refine ops_y hH13 rfl rfl (yv_build (v := (.agg #[(.slice none 0 0)])) (us := []) (fun a ha => by simp []) (fun w => by kernel_rfl)) ?_
    refine op_store (n := 1) (j := 0) (us := [(.slice none 0 0)]) rfl rfl hH13 rfl T.sz24 rfl rfl rfl (by rfl) (fun w93 hH94 => ?_)
    refine oA hH94 rfl rfl (ops_nil (thn_n (ret (thn_r (scp_r ?_)))))
    have hH95 := (hH94.sub (sC sR))
    refine fin (hH95.front (n := 1) rfl) (fun w' hf => (res2 rfl (rvA (cs := [(.slice none 0 0)]) rfl T.agg24 rfl (bx_cells (Heap.bxw hf (n := 1) rfl) (k := 0) rfl)) (show RV _ _ _ (.tmp 3) _ from rfl))) (fun w' hf => ?_)
    first | (rw [B.lo7 (by omega)]; exact ⟨_, rfl, Rd.nil⟩) | (rw [B.lo8a hl1 hns]; exact ⟨_, rfl, Rd.nil⟩) | (rw [B.lo8b hl1 hsh hnn]; exact ⟨_, rfl, Rd.nil⟩) | (rw [B.lo8c hl1 hsh hae hnx]; exact ⟨_, rfl, Rd.nil⟩) | (rw [B.lock hl1 hsh hae hhx (by rw [← hes]; exact hck)]; rw [← hes]; exact ⟨_, rfl, Rd.nil⟩) | (rw [B.lo14 hl1 hsh hae hhx (by rw [← hes]; exact hc0) (by rw [← hes]; exact hrn)]; exact ⟨_, rfl, Rd.nil⟩) | (rw [B.look hl1 hsh hae hhx (by rw [← hes]; exact hc0) (by rw [← hes]; exact hrt)]; rw [← hes]; exact ⟨_, rfl, Heap.rdw T.el22_encE hf (n := 0) rfl⟩)
end Go.Fip
