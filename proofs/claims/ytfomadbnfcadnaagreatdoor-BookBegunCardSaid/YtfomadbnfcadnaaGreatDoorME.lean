/- Joined texts: Wg, Wh, Wi, Wj, Wk, Wl, Wm. -/
import Derived.Test.YtfomadbnfcadnaaGreatDoorMD
import Derived.Test.YtfomadbnfcadnaaGreatDoorMB
set_option linter.unusedVariables false
set_option linter.unusedSimpArgs false
set_option linter.unusedSectionVars false
set_option linter.unnecessarySimpa false
namespace Go.Fip
open Go.Proofs Go.RowKit
theorem B.InR.take {l : List En} (h : B.InR l) (k : Nat) : B.InR (l.take k) := fun i hi => by
 rw [List.length_take] at hi
 have := h i (by omega)
 rw [nth_nat (by omega)] at this
 rw [nth_nat (by rw [List.length_take]; omega), List.getElem_take]; exact this
theorem B.InR.drop {l : List En} (h : B.InR l) (k : Nat) : B.InR (l.drop k) := fun i hi => by
 rw [List.length_drop] at hi
 rw [nth_drop]
 exact h (k + i) (by omega)
theorem T.m136 : MapT Tryz.prog 136 143 32 B.kvS B.vvW 0 := mapT_two2 (by kernel_rfl) Tryz.underlying143 (by kernel_rfl) (by kernel_rfl) (by kernel_rfl) (by kernel_rfl) (fun _ => by kernel_rfl)
theorem Gl.nowK {K V : Type} [DecidableEq K] {kv : K → Value} {vv : V → Value} {kb : Nat} {m : List (K × V)} {w w' : World} (h : Gl w) (hm : Mp kv vv kb m w) (hL : Agree 0 kb w w') (hR : Agree (kb + 1) w.heap.size w w') : Gl w' := by
 obtain ⟨es, clock, hb, -⟩ := hm
 have key : ∀ (g : Nat) (o : Obj), w.heap[g]? = some o → (∀ es c, o ≠ .map es c) → w'.heap[g]? = some o := fun g o ho hne => block_rest hL hR (fun e => by subst e; rw [hb] at ho; exact hne _ _ (Option.some.inj ho).symm) ho
 have cell : ∀ (a : Addr) (v : Value), w.cell? a = some v → w'.cell? a = some v := fun a v hv => by
  obtain ⟨o, ho⟩ := blockAt hv
  have h2 := key _ o ho (fun es c e => by subst e; simp [World.cell?, ho] at hv)
  rw [← hv]
  exact World.cell?_of_block (w := w) (show w'.heap[a.block]? = w.heap[a.block]? by rw [h2, ho])
 obtain ⟨m, hm⟩ := h.len
 obtain ⟨t1, p1, h1⟩ := h.syn
 obtain ⟨t2, p2, h2⟩ := h.rng
 refine ⟨?_, ⟨m, cell _ _ hm⟩, ⟨t1, p1, cell _ _ h1⟩, ⟨t2, p2, cell _ _ h2⟩, cell _ _ h.tz⟩
 have ht := h.tab
 unfold Lib.TabIs World.var? at *
 cases hg : Tryz.prog.globalNamed "internal/strconv.uint64pow10" with
 | none => rw [hg] at ht; simp at ht
 | some g =>
  rw [hg] at ht
  simp only [Option.bind_some] at ht ⊢
  cases ho : w.heap[g]? with
  | none => rw [ho] at ht; simp at ht
  | some o =>
   rw [ho] at ht
   rw [key g o ho (fun es c e => by subst e; simp at ht)]
   exact ht
theorem c44r {v : Value} {l : List En} {w : World} (h0 : Rd encE 5 v l w) (hn : l.length ≤ 64) (hin : B.InR l) (ih : ∀ {v1 : Value} {l1 : List En} {w1 : World}, Rd encE 5 v1 l1 w1 → l1.length < l.length → l1.length ≤ 64 → B.InR l1 → Fn Tryz.prog 44 #[v1] w1 (fun u _ => u = .int .u64 ((B.root l1).toNat : Int)))  :
  Fn Tryz.prog 44 [v].toArray w (fun u _ => u = .int .u64 ((B.root l).toNat : Int)) := by
 refine fn_of' (args := [v]) Tryz.func44 rfl (ent Tryz.func44 (by kernel_rfl) rfl) rfl rfl (fun hH => ?_)
 refine seq (region (oA hH rfl rfl (ops_nil (thn_n (seq (seq (region (oM hH rfl rfl ?_))))))))
 refine ops_y hH rfl rfl (yv_len T.sl22 rfl (h0.now hH (n := 0) rfl).is) ?_
 refine ops_y hH rfl rfl (yv_eql rfl rfl) ?_
 refine ops_nil (thn_n ?_)
 by_cases hc1 : (l.length : Int) = 0
 ·skip
  refine cond_t rfl (dT hc1) ?_
  refine seq (region ?_)
  refine op_fnV rfl rfl rfl hH (c69 (l := ([] : List UInt8)) (by first | omega | (unfold B.leaf; simp only [List.length_append, List.length_cons, List.length_nil]; omega) | (rw [hbl]; omega) | (simp only [List.length_append, List.length_cons, List.length_nil]; omega))) (fun w2 hH3 => ?_)
  refine oA hH3 rfl rfl (ops_nil (thn_n (ret (thn_r ?_))))
  refine fin hH3 (fun w' hf => (res1 rfl (show RV _ _ _ (.tmp 2) _ from rfl))) (fun w' hf => ?_)
  first | rw [B.root_nil (l := l) (by omega)] | rw [B.root_one (l := l) (by omega)] | (rw [B.root_two (l := l) (by omega)]; simp only [Int.toNat_natCast])
 ·skip
  refine cond_f rfl (dF hc1) ?_
  refine skip (thn_n (seq (seq (region (oM hH rfl rfl ?_)))))
  refine ops_y hH rfl rfl (yv_len T.sl22 rfl (h0.now hH (n := 0) rfl).is) ?_
  refine ops_y hH rfl rfl (yv_eql rfl rfl) ?_
  refine ops_nil (thn_n ?_)
  by_cases hc4 : (l.length : Int) = 1
  ·skip
   refine cond_t rfl (dT hc4) ?_
   refine seq ?_
   have he0 : B.isEn (nth l 0) := hin 0 (by omega)
   have htl := B.text_len he0
   refine region (oM hH rfl rfl ?_)
   refine ops_y hH rfl rfl (yv_index T.sl22 rfl rfl (h0.now hH (n := 0) rfl).is (by omega)) ?_
   refine ops_y hH rfl rfl (yv_loadA (cs := [(.int .i64 ((nth l 0).n)), (.int .i64 ((nth l 0).d)), (.int .i64 ((nth l 0).f)), (.int .i64 ((nth l 0).t)), (.int .i64 ((nth l 0).a))]) T.agg38 rfl rfl (fun _ hw => Rd.atA (h0.now hw (n := 0) rfl) (i := 0) (by omega))) ?_
   refine op_fnV rfl rfl rfl hH (c95 (e := (nth l 0)) he0) (fun w5 hH6 => ?_)
   refine op_fnV rfl rfl rfl hH6 (c69 (l := (B.leaf (nth l 0))) (by first | omega | (unfold B.leaf; simp only [List.length_append, List.length_cons, List.length_nil]; omega) | (rw [hbl]; omega) | (simp only [List.length_append, List.length_cons, List.length_nil]; omega))) (fun w7 hH8 => ?_)
   refine oA hH8 rfl rfl (ops_nil (thn_n (ret (thn_r ?_))))
   refine fin hH8 (fun w' hf => (res1 rfl (show RV _ _ _ (.tmp 2) _ from rfl))) (fun w' hf => ?_)
   first | rw [B.root_nil (l := l) (by omega)] | rw [B.root_one (l := l) (by omega)] | (rw [B.root_two (l := l) (by omega)]; simp only [Int.toNat_natCast])
  ·skip
   refine cond_f rfl (dF hc4) ?_
   refine skip (thn_n (seq (region (oM hH rfl rfl ?_))))
   refine ops_y hH rfl rfl (yv_len T.sl22 rfl (h0.now hH (n := 0) rfl).is) ?_
   refine op_fnV rfl rfl rfl hH (c96 (by omega)) (fun w9 hH10 => ?_)
   refine oA hH10 rfl rfl (ops_nil (thn_n (seq ?_)))
   have hbh := B.half_lt (n := l.length) (by omega)
   have hbl := fun a b => show (B.both a b).length = 33 from by unfold B.both; simp only [List.length_append, List.length_cons, List.length_nil, B.hex_length]
   refine region_draw (fun w' => Heap [base w] w') T.mixed (fun w11 hr12 => ?_)
   have hH13 := hH10.redrawn hr12
   refine any_takes [0, 1, 2, 4, 5, 6] (by kernel_rfl) hH13 _ _ _ (by kernel_rfl) ?_
   refine qM rfl rfl rfl (qM rfl rfl rfl ?_)
   refine qs_y rfl rfl (yv_cut_hi T.sl22 rfl rfl (h0.now hH13 (n := 0) rfl).is (by omega)) ?_
   refine qM rfl rfl rfl (qM rfl rfl rfl ?_)
   refine qs_y rfl rfl (yv_cut_lo T.sl22 rfl rfl (h0.now hH13 (n := 0) rfl).is (by omega)) ?_
   refine qs_nil ?_
   refine any_all [3] (by kernel_rfl) rfl ?_
   refine ⟨⟨_, rfl, ?_⟩, trivial⟩
   ·skip
    refine op_fnV rfl rfl rfl hH13 (ih (Rd.upto (h0.now hH13 (n := 0) rfl) (hi := (B.half l.length : Int).toNat) (by omega)) (by rw [List.length_take]; omega) (by rw [List.length_take]; omega) (B.InR.take hin _)) (fun w14 hH15 => ?_)
    refine ops_nil ?_
    refine ⟨hH15, ?_⟩
    refine any_all [7] (by kernel_rfl) rfl ?_
    refine ⟨⟨_, rfl, ?_⟩, trivial⟩
    ·skip
     refine op_fnV rfl rfl rfl hH15 (ih (Rd.from (h0.now hH15 (n := 0) rfl) (lo := (B.half l.length : Int).toNat) (by omega)) (by rw [List.length_drop]; omega) (by rw [List.length_drop]; omega) (B.InR.drop hin _)) (fun w16 hH17 => ?_)
     refine ops_nil ?_
     refine ⟨hH17, ?_⟩
     refine any_all [8] (by kernel_rfl) rfl ?_
     refine ⟨⟨_, rfl, ?_⟩, trivial⟩
     ·skip
      refine op_fnV rfl rfl rfl hH17 (c97 ) (fun w18 hH19 => ?_)
      refine ops_nil ?_
      refine ⟨hH19, ?_⟩
      refine any_all [9] (by kernel_rfl) rfl ?_
      refine ⟨⟨_, rfl, ?_⟩, trivial⟩
      ·skip
       refine op_fnV rfl rfl rfl hH19 (c69 (l := (B.both (B.root (l.take (B.half l.length : Int).toNat)) (B.root (l.drop (B.half l.length : Int).toNat)))) (by first | omega | (unfold B.leaf; simp only [List.length_append, List.length_cons, List.length_nil]; omega) | (rw [hbl]; omega) | (simp only [List.length_append, List.length_cons, List.length_nil]; omega))) (fun w20 hH21 => ?_)
       refine ops_nil ?_
       refine ⟨hH21, ?_⟩
       refine any_takes [10] (by kernel_rfl) hH21 _ _ _ (by kernel_rfl) ?_
       refine qs_y rfl rfl (yv_assign rfl) (qs_nil ?_)
       refine any_done (by kernel_rfl) ?_
       refine thn_n (ret ?_)
       refine fin hH21 (fun w' hf => (res1 rfl (show RV _ _ _ (.tmp 2) _ from rfl))) (fun w' hf => ?_)
       first | rw [B.root_nil (l := l) (by omega)] | rw [B.root_one (l := l) (by omega)] | (rw [B.root_two (l := l) (by omega)]; simp only [Int.toNat_natCast])
theorem c44 {v : Value} {l : List En} {w : World} (h0 : Rd encE 5 v l w) (hn : l.length ≤ 64) (hin : B.InR l) : Fn Tryz.prog 44 #[v] w (fun u _ => u = .int .u64 ((B.root l).toNat : Int)) := by
 induction hl : l.length using Nat.strongRecOn generalizing v l w with
 | _ n ih => exact c44r h0 hn hin (fun h1 h2 h3 h4 => ih _ (by omega) h1 h3 h4 rfl)
end Go.Fip
namespace Go.Fip
open Go.Proofs Go.RowKit
def DeskK (db mb : Nat) (v : Value) (l : List En) (w : World) : Prop := Bx db 138 [v, .map (some mb)] w ∧ Rd encE 5 v l w
theorem DeskK.nowK {db mb kb : Nat} {v : Value} {l : List En} {K V : Type} [DecidableEq K] {kv : K → Value} {vv : V → Value} {m : List (K × V)} {w w' : World} (h : DeskK db mb v l w) (hk : Mp kv vv kb m w) (hL : Agree 0 kb w w') (hR : Agree (kb + 1) w.heap.size w w') : DeskK db mb v l w' :=
 ⟨h.1.nowK hk hL hR, h.2.nowM hk hL hR⟩
theorem DeskK.now {db mb : Nat} {v : Value} {l : List En} {w w' : World} (h : DeskK db mb v l w) {H : List Item} {n : Nat} (hH : Heap H w') (hn : H[n]? = some (base w)) : DeskK db mb v l w' :=
 ⟨h.1.now hH hn, h.2.now hH hn⟩
theorem c112r {db kb s e : Nat} {v : Value} {l : List En} {m : B.Ms} {w : World} (hb : DeskK db kb v l w) (hkm : Mp B.kvS B.vvW kb m w) (hg : B.Good l m) (hG : Gl w) (hin : B.InR l) (hn : l.length ≤ 64) (hse : s < e) (he : e ≤ l.length) (ih : ∀ {s1 e1 : Nat} {m0 : B.Ms} {w0 : World}, e1 - s1 < e - s → DeskK db kb v l w0 → Mp B.kvS B.vvW kb m0 w0 → B.Good l m0 → Gl w0 → s1 < e1 → e1 ≤ l.length → FnM Tryz.prog 112 #[.pointer (some ⟨db, 0, none⟩), .agg #[.int .i64 (s1 : Int), .int .i64 (e1 : Int)]] w0 kb (fun u w => u = .int .u64 ((B.root (B.sub l s1 e1)).toNat : Int) ∧ ∃ m1, Mp B.kvS B.vvW kb m1 w ∧ B.Ext l m0 m1 s1 e1)) :
  FnM Tryz.prog 112 [(.pointer (some ⟨db, 0, none⟩)), (.agg #[(.int .i64 (s : Int)), (.int .i64 (e : Int))])].toArray w kb (fun u w => u = .int .u64 ((B.root (B.sub l s e)).toNat : Int) ∧ ∃ m1, Mp B.kvS B.vvW kb m1 w ∧ B.Ext l m m1 s e) := by
 refine fnK_of (args := [(.pointer (some ⟨db, 0, none⟩)), (.agg #[(.int .i64 (s : Int)), (.int .i64 (e : Int))])]) Tryz.func112 rfl (ent Tryz.func112 (by kernel_rfl) rfl) rfl rfl (mp_ok hkm) (fun hH => ?_)
 refine seq (region ?_)
 refine op_box (us := [(.int .i64 (s : Int)), (.int .i64 (e : Int))]) rfl rfl rfl hH (fun b1 w2 hH3 => ?_)
 refine oA hH3 rfl rfl (ops_nil (thn_n (seq (seq (region ?_)))))
 refine ops_y hH3 rfl rfl (yv_field T.f143_1 rfl) ?_
 refine ops_y hH3 rfl rfl (yv_load T.one3 rfl (fun _ hw => Heap.cellw hw (n := 0) rfl rfl)) ?_
 refine ops_y hH3 rfl rfl (yv_field T.f143_0 rfl) ?_
 refine ops_y hH3 rfl rfl (yv_load T.one3 rfl (fun _ hw => Heap.cellw hw (n := 0) rfl rfl)) ?_
 refine ops_y hH3 rfl rfl (yv_sub rfl rfl (by omega)) ?_
 refine ops_y hH3 rfl rfl (yv_eql rfl rfl) ?_
 refine ops_nil (thn_n ?_)
 by_cases hc4 : ((e : Int) - (s : Int)) = 1
 ·skip
  refine cond_t rfl (dT hc4) ?_
  refine seq ?_
  have hs0 : B.isEn (nth l (s : Int)) := hin s (by omega)
  have htl := B.text_len hs0
  refine region_draw (fun w' => Heap [bx b1 143 [(.int .i64 (s : Int)), (.int .i64 (e : Int))], mp B.kvS B.vvW kb m, restL w kb, restR w kb] w') T.mixed (fun w5 hr6 => ?_)
  have hH7 := hH3.redrawn hr6
  refine any_takes [0, 1, 2, 3, 4, 5, 6, 7, 8] (by kernel_rfl) hH7 _ _ _ (by kernel_rfl) ?_
  refine qM rfl rfl rfl ?_
  refine qs_y rfl rfl (yv_nilck rfl) ?_
  refine qs_y rfl rfl (yv_field T.f138_0 rfl) ?_
  refine qs_y rfl rfl (yv_field T.f24_0 rfl) ?_
  refine qs_y rfl rfl (yv_load T.one22 rfl (fun _ hw => bx_cell ((hb.nowK hkm (hw.get (n := 2) rfl) (hw.get (n := 3) rfl)).1) rfl)) ?_
  refine qs_y rfl rfl (yv_field T.f143_0 rfl) ?_
  refine qs_y rfl rfl (yv_load T.one3 rfl (fun _ hw => Heap.cellw hw (n := 0) rfl rfl)) ?_
  refine qs_y rfl rfl (yv_index T.sl22 rfl rfl ((hb.nowK hkm (hH7.get (n := 2) rfl) (hH7.get (n := 3) rfl)).2).is (by omega)) ?_
  refine qs_y rfl rfl (yv_loadA (cs := [(.int .i64 ((nth l (s : Int)).n)), (.int .i64 ((nth l (s : Int)).d)), (.int .i64 ((nth l (s : Int)).f)), (.int .i64 ((nth l (s : Int)).t)), (.int .i64 ((nth l (s : Int)).a))]) T.agg38 rfl rfl (fun _ hw => Rd.atA ((hb.nowK hkm (hw.get (n := 2) rfl) (hw.get (n := 3) rfl)).2) (i := (s : Int)) (by omega))) ?_
  refine qs_nil ?_
  refine any_all [9] (by kernel_rfl) rfl ?_
  refine ⟨⟨_, rfl, ?_⟩, trivial⟩
  ·skip
   refine op_fnV rfl rfl rfl hH7 (c73 (e := (nth l (s : Int))) (hG.nowK hkm (hH7.get (n := 2) rfl) (hH7.get (n := 3) rfl)) hs0) (fun w8 hH9 => ?_)
   refine ops_nil ?_
   refine ⟨hH9, ?_⟩
   refine any_takes [10] (by kernel_rfl) hH9 _ _ _ (by kernel_rfl) ?_
   refine qs_y rfl rfl (yv_cat rfl rfl (by first | omega | (simp only [List.length_append, List.length_cons, List.length_nil]; omega))) ?_
   refine qs_nil ?_
   refine any_all [11] (by kernel_rfl) rfl ?_
   refine ⟨⟨_, rfl, ?_⟩, trivial⟩
   ·skip
    refine op_fnV rfl rfl rfl hH9 (c68 (by first | omega | (simp only [List.length_append, List.length_cons, List.length_nil]; omega))) (fun w10 hH11 => ?_)
    refine ops_nil ?_
    refine ⟨hH11, ?_⟩
    refine any_takes [12] (by kernel_rfl) hH11 _ _ _ (by kernel_rfl) ?_
    refine qs_y rfl rfl (yv_assign rfl) (qs_nil ?_)
    refine any_done (by kernel_rfl) ?_
    refine thn_n (seq ?_)
    refine region_draw (fun w' => Heap [bx b1 143 [(.int .i64 (s : Int)), (.int .i64 (e : Int))], restL w kb, restR w kb] w') T.mixed (fun w12 hr13 => ?_)
    have hH14 := hH11.redrawn hr13
    refine any_takes [0, 1, 2, 3, 4, 5] (by kernel_rfl) (hH14.sub (List.Sublist.cons_cons _ (sC sR))) _ _ _ (by kernel_rfl) ?_
    refine qM rfl rfl rfl ?_
    refine qs_y rfl rfl (yv_nilck rfl) ?_
    refine qs_y rfl rfl (yv_field T.f138_1 rfl) ?_
    refine qs_y rfl rfl (yv_load T.one136 rfl (fun _ hw => bx_cell ((hb.nowK hkm (hw.get (n := 1) rfl) (hw.get (n := 2) rfl)).1) rfl)) ?_
    refine qs_y rfl rfl (yv_loadA (cs := [(.int .i64 (s : Int)), (.int .i64 (e : Int))]) T.agg143 rfl rfl (fun _ hw => Heap.cellsw hw (n := 0) rfl (k := 0) rfl)) ?_
    refine qM rfl rfl rfl (qs_nil ?_)
    refine any_all [6] (by kernel_rfl) rfl ?_
    refine ⟨⟨_, rfl, ?_⟩, trivial⟩
    ·skip
     refine op_update (n := 1) (k := (((s : Int), (e : Int)) : Int × Int)) (v := B.sm (([101] : List UInt8) ++ (B.text (nth l (s : Int))))) T.m136 rfl rfl rfl hH14 rfl (fun w15 hH16 => ?_)
     refine ops_nil ?_
     refine ⟨(hH16.sub (List.Sublist.cons_cons _ (sC sR))), ?_⟩
     refine any_done (by kernel_rfl) ?_
     refine thn_n (seq (region (oM hH16 rfl rfl (oA hH16 rfl rfl (ops_nil (thn_n (ret (thn_r ?_))))))))
     have hH17 := (hH16.sub (sC sR))
     refine finK [] hH17 (fun w' => (res1 rfl (show RV _ _ _ (.tmp 4) _ from rfl))) (fun w' hf => ?_)
     have hr1 := B.root_sub1 (l := l) (a := s) (b := e) (by omega) he
     exact ⟨by rw [hr1]; rfl, _, hf, B.Ext.one hg (by omega) (by omega) (by rw [hr1]; rfl)⟩
 ·skip
  refine cond_f rfl (dF hc4) ?_
  refine skip (thn_n (seq ?_))
  have hbh := B.half_lt (n := e - s) (by omega)
  refine region_draw (fun w' => Heap [bx b1 143 [(.int .i64 (s : Int)), (.int .i64 (e : Int))], mp B.kvS B.vvW kb m, restL w kb, restR w kb] w') T.mixed (fun w18 hr19 => ?_)
  have hH20 := hH3.redrawn hr19
  refine any_takes [0, 1, 2, 3, 4, 5, 6] (by kernel_rfl) hH20 _ _ _ (by kernel_rfl) ?_
  refine qs_y rfl rfl (yv_field T.f143_0 rfl) ?_
  refine qs_y rfl rfl (yv_load T.one3 rfl (fun _ hw => Heap.cellw hw (n := 0) rfl rfl)) ?_
  refine qs_y rfl rfl (yv_field T.f143_1 rfl) ?_
  refine qs_y rfl rfl (yv_load T.one3 rfl (fun _ hw => Heap.cellw hw (n := 0) rfl rfl)) ?_
  refine qs_y rfl rfl (yv_field T.f143_0 rfl) ?_
  refine qs_y rfl rfl (yv_load T.one3 rfl (fun _ hw => Heap.cellw hw (n := 0) rfl rfl)) ?_
  refine qs_y rfl rfl (yv_cast (show _ = ((e - s : Nat) : Int) by omega) (yv_sub rfl rfl (by omega))) ?_
  refine qs_nil ?_
  refine any_all [7] (by kernel_rfl) rfl ?_
  refine ⟨⟨_, rfl, ?_⟩, trivial⟩
  ·skip
   refine op_fnV rfl rfl rfl hH20 (c107 (by omega)) (fun w21 hH22 => ?_)
   refine ops_nil ?_
   refine ⟨hH22, ?_⟩
   refine any_takes [8, 9] (by kernel_rfl) hH22 _ _ _ (by kernel_rfl) ?_
   refine qs_y rfl rfl (yv_cast (show (s : Int) + (B.half (e - s) : Int) = ((s + B.half (e - s) : Nat) : Int) by omega) (yv_add rfl rfl (by omega))) ?_
   refine qs_y rfl rfl (yv_assign rfl) (qs_nil ?_)
   refine any_done (by kernel_rfl) ?_
   refine thn_n (seq ?_)
   refine region_draw (fun w' => Heap [bx b1 143 [(.int .i64 (s : Int)), (.int .i64 (e : Int))], restL w kb, restR w kb] w') T.mixed (fun w23 hr24 => ?_)
   have hH25 := hH22.redrawn hr24
   refine any_takes [0, 1, 2, 3, 4, 6, 7, 8, 9, 10] (by kernel_rfl) (hH25.sub (List.Sublist.cons_cons _ (sC sR))) _ _ _ (by kernel_rfl) ?_
   refine qM rfl rfl rfl ?_
   refine qs_y rfl rfl (yv_field T.f143_0 rfl) ?_
   refine qs_y rfl rfl (yv_load T.one3 rfl (fun _ hw => Heap.cellw hw (n := 0) rfl rfl)) ?_
   refine qM rfl rfl rfl ?_
   refine qs_y rfl rfl (yv_build (v := (.agg #[(.int .i64 (s : Int)), (.int .i64 ((s + B.half (e - s) : Nat) : Int))])) (us := [(0, (.int .i64 (s : Int))), (1, (.int .i64 ((s + B.half (e - s) : Nat) : Int)))]) (fun a ha => by simp [ha.ev (show ev _ (.tmp 44) = some _ from rfl), ha.ev (show ev _ (.tmp 45) = some _ from rfl)]) (fun w => by kernel_rfl)) ?_
   refine qM rfl rfl rfl (qM rfl rfl rfl ?_)
   refine qs_y rfl rfl (yv_field T.f143_1 rfl) ?_
   refine qs_y rfl rfl (yv_load T.one3 rfl (fun _ hw => Heap.cellw hw (n := 0) rfl rfl)) ?_
   refine qs_y rfl rfl (yv_build (v := (.agg #[(.int .i64 ((s + B.half (e - s) : Nat) : Int)), (.int .i64 (e : Int))])) (us := [(0, (.int .i64 ((s + B.half (e - s) : Nat) : Int))), (1, (.int .i64 (e : Int)))]) (fun a ha => by simp [ha.ev (show ev _ (.tmp 49) = some _ from rfl), ha.ev (show ev _ (.tmp 51) = some _ from rfl)]) (fun w => by kernel_rfl)) ?_
   refine qs_nil ?_
   refine any_all [5] (by kernel_rfl) rfl ?_
   refine ⟨⟨_, rfl, ?_⟩, trivial⟩
   ·skip
    refine op_fnM (g := kb) (n := 1) rfl rfl rfl hH25 rfl ⟨Nat.le_refl _, Nat.lt_succ_self _⟩ (ih (s1 := s) (e1 := (s + B.half (e - s))) (by omega) ⟨((hb.nowK hkm (hH25.get (n := 2) rfl) (hH25.get (n := 3) rfl)).1), ((hb.nowK hkm (hH25.get (n := 2) rfl) (hH25.get (n := 3) rfl)).2)⟩ (Heap.mapw hH25 (n := 1) rfl) hg (hG.nowK hkm (hH25.get (n := 2) rfl) (hH25.get (n := 3) rfl)) (by omega) (by omega)) (fun u28 w26 hH27 hv29 => ?_)
    obtain ⟨hu, -⟩ := hv29
    subst hu
    obtain ⟨km31, hE32, hH30⟩ := Heap.fixMp hH27 (n := 1) rfl (fun w' h => h.2)
    refine ops_nil ?_
    refine ⟨(hH30.sub (List.Sublist.cons_cons _ (sC sR))), ?_⟩
    refine any_all [11] (by kernel_rfl) rfl ?_
    refine ⟨⟨_, rfl, ?_⟩, trivial⟩
    ·skip
     refine op_fnM (g := kb) (n := 1) rfl rfl rfl hH30 rfl ⟨Nat.le_refl _, Nat.lt_succ_self _⟩ (ih (s1 := (s + B.half (e - s))) (e1 := e) (by omega) ⟨((hb.nowK hkm (hH30.get (n := 2) rfl) (hH30.get (n := 3) rfl)).1), ((hb.nowK hkm (hH30.get (n := 2) rfl) (hH30.get (n := 3) rfl)).2)⟩ (Heap.mapw hH30 (n := 1) rfl) hE32.good (hG.nowK hkm (hH30.get (n := 2) rfl) (hH30.get (n := 3) rfl)) (by omega) (by omega)) (fun u35 w33 hH34 hv36 => ?_)
     obtain ⟨hu, -⟩ := hv36
     subst hu
     obtain ⟨km38, hE39, hH37⟩ := Heap.fixMp hH34 (n := 1) rfl (fun w' h => h.2)
     refine ops_nil ?_
     refine ⟨(hH37.sub (List.Sublist.cons_cons _ (sC sR))), ?_⟩
     refine any_all [12] (by kernel_rfl) rfl ?_
     refine ⟨⟨_, rfl, ?_⟩, trivial⟩
     ·skip
      refine op_fnV rfl rfl rfl hH37 (c76 (x := B.root (B.sub l s (s + B.half (e - s)))) (y := B.root (B.sub l (s + B.half (e - s)) e)) (hG.nowK hkm (hH37.get (n := 2) rfl) (hH37.get (n := 3) rfl))) (fun w40 hH41 => ?_)
      refine ops_nil ?_
      refine ⟨(hH41.sub (List.Sublist.cons_cons _ (sC sR))), ?_⟩
      refine any_takes [13] (by kernel_rfl) (hH41.sub (List.Sublist.cons_cons _ (sC sR))) _ _ _ (by kernel_rfl) ?_
      refine qs_y rfl rfl (yv_assign rfl) (qs_nil ?_)
      refine any_done (by kernel_rfl) ?_
      refine thn_n (seq ?_)
      refine region_draw (fun w' => Heap [bx b1 143 [(.int .i64 (s : Int)), (.int .i64 (e : Int))], restL w kb, restR w kb] w') T.mixed (fun w42 hr43 => ?_)
      have hH44 := hH41.redrawn hr43
      refine any_takes [0, 1, 2, 3, 4, 5] (by kernel_rfl) (hH44.sub (List.Sublist.cons_cons _ (sC sR))) _ _ _ (by kernel_rfl) ?_
      refine qM rfl rfl rfl ?_
      refine qs_y rfl rfl (yv_nilck rfl) ?_
      refine qs_y rfl rfl (yv_field T.f138_1 rfl) ?_
      refine qs_y rfl rfl (yv_load T.one136 rfl (fun _ hw => bx_cell ((hb.nowK hkm (hw.get (n := 1) rfl) (hw.get (n := 2) rfl)).1) rfl)) ?_
      refine qs_y rfl rfl (yv_loadA (cs := [(.int .i64 (s : Int)), (.int .i64 (e : Int))]) T.agg143 rfl rfl (fun _ hw => Heap.cellsw hw (n := 0) rfl (k := 0) rfl)) ?_
      refine qM rfl rfl rfl (qs_nil ?_)
      refine any_all [6] (by kernel_rfl) rfl ?_
      refine ⟨⟨_, rfl, ?_⟩, trivial⟩
      ·skip
       refine op_update (n := 1) (k := (((s : Int), (e : Int)) : Int × Int)) (v := B.sm (B.both (B.root (B.sub l s (s + B.half (e - s)))) (B.root (B.sub l (s + B.half (e - s)) e)))) T.m136 rfl rfl rfl hH44 rfl (fun w45 hH46 => ?_)
       refine ops_nil ?_
       refine ⟨(hH46.sub (List.Sublist.cons_cons _ (sC sR))), ?_⟩
       refine any_done (by kernel_rfl) ?_
       refine thn_n (seq (region (oM hH46 rfl rfl (oA hH46 rfl rfl (ops_nil (thn_n (ret ?_)))))))
       have hH47 := (hH46.sub (sC sR))
       refine finK [] hH47 (fun w' => (res1 rfl (show RV _ _ _ (.tmp 4) _ from rfl))) (fun w' hf => ?_)
       have hr2 := B.root_sub2 (l := l) (a := s) (b := e) (by omega) he
       exact ⟨by rw [hr2], _, hf, B.Ext.join (by omega) (by omega) hE32 hE39 (by rw [hr2])⟩
theorem c112 {db kb s e : Nat} {v : Value} {l : List En} {m : B.Ms} {w : World} (hb : DeskK db kb v l w) (hkm : Mp B.kvS B.vvW kb m w) (hg : B.Good l m) (hG : Gl w) (hin : B.InR l) (hn : l.length ≤ 64) (hse : s < e) (he : e ≤ l.length) : FnM Tryz.prog 112 #[.pointer (some ⟨db, 0, none⟩), .agg #[.int .i64 (s : Int), .int .i64 (e : Int)]] w kb (fun u w => u = .int .u64 ((B.root (B.sub l s e)).toNat : Int) ∧ ∃ m1, Mp B.kvS B.vvW kb m1 w ∧ B.Ext l m m1 s e) := by
 induction hlen : e - s using Nat.strongRecOn generalizing s e m w with
 | _ n ih => exact c112r hb hkm hg hG hin hn hse he (fun hlt h1 h2 h3 h4 h5 h6 => ih _ (by omega) h1 h2 h3 h4 h5 h6 rfl)
end Go.Fip
namespace Go.Fip
open Go.Proofs Go.RowKit
theorem c100 {v : Value} {l : List En} {w : World} (h0 : Rd encE 5 v l w) (hG : Gl w) (hn : l.length ≤ 24) (hin : B.InR l)  :
  Fn Tryz.prog 100 [(.agg #[v])].toArray w (fun u w => ∃ db : Nat, u = .pointer (some ⟨db, 0, none⟩) ∧ RowEx B.kvS B.vvW (B.Whole l) 138 db v w) := by
 refine fn_of' (args := [(.agg #[v])]) Tryz.func100 rfl (ent Tryz.func100 (by kernel_rfl) rfl) rfl rfl (fun hH => ?_)
 refine seq (region ?_)
 refine op_box (us := [v]) rfl rfl rfl hH (fun b1 w2 hH3 => ?_)
 refine oA hH3 rfl rfl (ops_nil (thn_n (seq (region ?_))))
 refine ops_y hH3 rfl rfl (yv_loadA (cs := [v]) T.agg24 rfl rfl (fun _ hw => Heap.cellsw hw (n := 0) rfl (k := 0) rfl)) ?_
 refine op_makeMap B.kvS B.vvW rfl hH3 (fun b4 w5 hH6 => ?_)
 refine ops_y hH6 rfl rfl (yv_build (v := (.agg #[v, (.map (some b4))])) (us := [(0, (.agg #[v])), (1, (.map (some b4)))]) (fun a ha => by simp [ha.ev (show ev _ (.tmp 5) = some _ from rfl), ha.ev (show ev _ (.tmp 6) = some _ from rfl)]) (fun w => by kernel_rfl)) ?_
 refine op_box (us := [v, (.map (some b4))]) rfl rfl rfl hH6 (fun b7 w8 hH9 => ?_)
 refine oA hH9 rfl rfl (ops_nil (thn_n (seq (region ?_))))
 refine ops_y hH9 rfl rfl (yv_field T.f24_0 rfl) ?_
 refine ops_y hH9 rfl rfl (yv_load T.one22 rfl (fun _ hw => Heap.cellw hw (n := 2) rfl rfl)) ?_
 refine ops_y hH9 rfl rfl (yv_len T.sl22 rfl (h0.now hH9 (n := 3) rfl).is) ?_
 refine ops_y hH9 rfl rfl (yv_build (v := (.agg #[(.int .i64 0), (.int .i64 (l.length : Int))])) (us := [(0, (.int .i64 0)), (1, (.int .i64 (l.length : Int)))]) (fun a ha => by simp [ha.ev (show ev _ (.const (.int .i64 0)) = some _ from rfl), ha.ev (show ev _ (.tmp 11) = some _ from rfl)]) (fun w => by kernel_rfl)) ?_
 refine op_alloc (z := (.agg #[(.int .i64 0), (.int .i64 0)])) (us := [(.int .i64 0), (.int .i64 0)]) (fun _ => by kernel_rfl) rfl rfl hH9 (fun b10 w11 hH12 => ?_)
 refine op_store (n := 0) (j := 0) (us := [(.int .i64 0), (.int .i64 (l.length : Int))]) rfl rfl hH12 rfl T.sz143 rfl rfl rfl (by rfl) (fun w13 hH14 => ?_)
 refine ops_nil (thn_n (seq (seq (region (oM hH14 rfl rfl ?_)))))
 refine ops_y hH14 rfl rfl (yv_nilck rfl) ?_
 refine ops_y hH14 rfl rfl (yv_field T.f138_0 rfl) ?_
 refine ops_y hH14 rfl rfl (yv_field T.f24_0 rfl) ?_
 refine ops_y hH14 rfl rfl (yv_load T.one22 rfl (fun _ hw => Heap.cellw hw (n := 1) rfl rfl)) ?_
 refine ops_y hH14 rfl rfl (yv_len T.sl22 rfl (h0.now hH14 (n := 4) rfl).is) ?_
 refine ops_y hH14 rfl rfl (yv_gtr rfl rfl) ?_
 refine ops_nil (thn_n ?_)
 by_cases hc15 : 0 < (l.length : Int)
 ·skip
  refine cond_t rfl (dT hc15) ?_
  refine region (oM hH14 rfl rfl ?_)
  refine ops_y hH14 rfl rfl (yv_loadA (cs := [(.int .i64 0), (.int .i64 (l.length : Int))]) T.agg143 rfl rfl (fun _ hw => Heap.cellsw hw (n := 0) rfl (k := 0) rfl)) ?_
  refine op_fnM (g := b4) (n := 2) rfl rfl rfl hH14 rfl ⟨Nat.le_refl _, Nat.lt_succ_self _⟩ (c112 (s := 0) (e := l.length) ⟨(Heap.bxw hH14 (n := 1) rfl), (h0.now hH14 (n := 4) rfl)⟩ (Heap.mapw hH14 (n := 2) rfl) B.Good.nil (hG.now hH14 (n := 4) rfl) hin (by omega) (by omega) (by omega)) (fun u18 w16 hH17 hv19 => ?_)
  obtain ⟨hu, -⟩ := hv19
  subst hu
  obtain ⟨km21, hE22, hH20⟩ := Heap.fixMp hH17 (n := 2) rfl (fun w' h => h.2)
  refine ops_nil (thn_n (seq (region (oM hH20 rfl rfl (oA hH20 rfl rfl (ops_nil (thn_n (ret ?_))))))))
  have hH23 := (hH20.sub (sC (List.Sublist.cons_cons _ (List.Sublist.cons_cons _ (sC sR)))))
  refine fin (hH23.front (n := 2) rfl) (fun w' hf => (res1 rfl (show RV _ _ _ (.tmp 2) _ from rfl))) (fun w' hf => ?_)
  exact ⟨_, rfl, _, _, Heap.bxw hf (n := 0) rfl, Heap.mapw hf (n := 1) rfl, (B.Whole.of hE22)⟩
 ·skip
  refine cond_f rfl (dF hc15) ?_
  refine skip (thn_n (seq (region (oM hH14 rfl rfl (oA hH14 rfl rfl (ops_nil (thn_n (ret ?_))))))))
  have hH24 := (hH14.sub (sC (List.Sublist.cons_cons _ (List.Sublist.cons_cons _ (sC sR)))))
  refine fin (hH24.front (n := 2) rfl) (fun w' hf => (res1 rfl (show RV _ _ _ (.tmp 2) _ from rfl))) (fun w' hf => ?_)
  exact ⟨_, rfl, _, _, Heap.bxw hf (n := 0) rfl, Heap.mapw hf (n := 1) rfl, (B.Whole.none (by omega))⟩
theorem c56g {v : Value} {l : List En} {w : World} (h0 : Rd encE 5 v l w) (hn : l.length ≤ 1000000) (hG : Gl w) (hc : B.ck l = 0)  :
  Fn Tryz.prog 56 [(.agg #[v])].toArray w (fun u w => ∃ db : Nat, u = .tuple #[.pointer (some ⟨db, 0, none⟩), .int .i64 0] ∧ RowEx B.kvS B.vvW (B.Whole l) 138 db v w) := by
 refine fn_of' (args := [(.agg #[v])]) Tryz.func56 rfl (ent Tryz.func56 (by kernel_rfl) rfl) rfl rfl (fun hH => ?_)
 have hbk := B.ck_iff.1 hc
 have hin0 := hbk.2.1
 have hl24 := hbk.1
 refine seq (region ?_)
 refine op_box (us := [v]) rfl rfl rfl hH (fun b1 w2 hH3 => ?_)
 refine oA hH3 rfl rfl (oA hH3 rfl rfl (ops_nil (thn_n (seq (seq (region ?_))))))
 refine ops_y hH3 rfl rfl (yv_loadA (cs := [v]) T.agg24 rfl rfl (fun _ hw => Heap.cellsw hw (n := 0) rfl (k := 0) rfl)) ?_
 refine op_fnV rfl rfl rfl hH3 (c21 (h0.now hH3 (n := 1) rfl) (by omega)) (fun w4 hH5 => ?_)
 refine oA hH5 rfl rfl (ops_nil (thn_n (seq (region (oM hH5 rfl rfl ?_)))))
 refine ops_y hH5 rfl rfl (yv_neq rfl rfl) ?_
 refine ops_nil (thn_n ?_)
 have hc6 : ¬ (¬ ((B.ck l) = 0)) := fun h => h hc
 refine cond_f rfl (not_decide_f hc6) ?_
 refine skip (thn_n (seq (region ?_)))
 refine ops_y hH5 rfl rfl (yv_loadA (cs := [v]) T.agg24 rfl rfl (fun _ hw => Heap.cellsw hw (n := 0) rfl (k := 0) rfl)) ?_
 refine op_fn rfl rfl rfl hH5 (c100 (h0.now hH5 (n := 1) rfl) (hG.now hH5 (n := 1) rfl) (by omega) hin0) (fun u9 w7 lo10 hi11 hH8 hv12 => ?_)
 obtain ⟨dbD14, hu, hrowD14⟩ := hv12
 subst hu
 obtain ⟨mbD14, esD14, clD14, mD14, hentsD14, hwholeD14, hH13⟩ := Heap.fixMap hH8 (n := 0) rfl (fun w' h => by obtain ⟨rb', e, h⟩ := h; cases e; exact h)
 refine oA hH13 rfl rfl (oA hH13 rfl rfl (ops_nil (thn_n (ret ?_))))
 have hH15 := (hH13.sub (List.Sublist.cons_cons _ (sC sR)))
 refine fin (hH15.front (n := 1) rfl) (fun w' hf => (res2 rfl (show RV _ _ _ (.tmp 2) _ from rfl) (show RV _ _ _ (.tmp 3) _ from rfl))) (fun w' hf => ?_)
 have hat : RowAt 138 dbD14 v mbD14 esD14 clD14 w' := hf.get (n := 0) rfl
 exact ⟨_, rfl, _, _, hat.1, hentsD14.mp hat.2, hwholeD14⟩
theorem c56b {v : Value} {l : List En} {w : World} (h0 : Rd encE 5 v l w) (hn : l.length ≤ 1000000) (hc : ¬ B.ck l = 0)  :
  Fn Tryz.prog 56 [(.agg #[v])].toArray w (fun u _ => u = .tuple #[.pointer none, .int .i64 (B.ck l)]) := by
 refine fn_of' (args := [(.agg #[v])]) Tryz.func56 rfl (ent Tryz.func56 (by kernel_rfl) rfl) rfl rfl (fun hH => ?_)
 refine seq (region ?_)
 refine op_box (us := [v]) rfl rfl rfl hH (fun b1 w2 hH3 => ?_)
 refine oA hH3 rfl rfl (oA hH3 rfl rfl (ops_nil (thn_n (seq (seq (region ?_))))))
 refine ops_y hH3 rfl rfl (yv_loadA (cs := [v]) T.agg24 rfl rfl (fun _ hw => Heap.cellsw hw (n := 0) rfl (k := 0) rfl)) ?_
 refine op_fnV rfl rfl rfl hH3 (c21 (h0.now hH3 (n := 1) rfl) (by omega)) (fun w4 hH5 => ?_)
 refine oA hH5 rfl rfl (ops_nil (thn_n (seq (region (oM hH5 rfl rfl ?_)))))
 refine ops_y hH5 rfl rfl (yv_neq rfl rfl) ?_
 refine ops_nil (thn_n ?_)
 have hc6 : ¬ ((B.ck l) = 0) := hc
 refine cond_t rfl (not_decide_t hc6) ?_
 refine seq (region (oM hH5 rfl rfl (oA hH5 rfl rfl (oA hH5 rfl rfl (ops_nil (thn_n (ret (thn_r ?_))))))))
 have hH7 := (hH5.sub (sC sR))
 refine fin hH7 (fun w' hf => (res2 rfl (show RV _ _ _ (.tmp 2) _ from rfl) (show RV _ _ _ (.tmp 3) _ from rfl))) (fun w' hf => ?_)
 rfl
theorem B.Whole.root {l : List En} {m : B.Ms} (h : B.Whole l m) (h1 : 1 ≤ l.length) : (find ((0 : Int), (l.length : Int)) m).getD 0 = B.root l := by
 have := h.at (c := 0) (d := l.length) h1 (.self _ _)
 rw [B.sub_all] at this
 exact this
theorem c70 {db mb : Nat} {v : Value} {l : List En} {m : B.Ms} {w : World} (hd : DeskK db mb v l w) (hm : Mp B.kvS B.vvW mb m w) (hW : B.Whole l m)  :
  Fn Tryz.prog 70 [(.pointer (some ⟨db, 0, none⟩))].toArray w (fun u _ => u = .int .u64 ((B.root l).toNat : Int)) := by
 refine fn_of' (args := [(.pointer (some ⟨db, 0, none⟩))]) Tryz.func70 rfl (ent Tryz.func70 (by kernel_rfl) rfl) rfl rfl (fun hH => ?_)
 refine seq (region (oA hH rfl rfl (ops_nil (thn_n (seq (seq (region (oM hH rfl rfl ?_))))))))
 refine ops_y hH rfl rfl (yv_nilck rfl) ?_
 refine ops_y hH rfl rfl (yv_field T.f138_0 rfl) ?_
 refine ops_y hH rfl rfl (yv_field T.f24_0 rfl) ?_
 refine ops_y hH rfl rfl (yv_load T.one22 rfl (fun _ hw => bx_cell ((hd.now hw (n := 0) rfl).1) rfl)) ?_
 refine ops_y hH rfl rfl (yv_len T.sl22 rfl ((hd.now hH (n := 0) rfl).2).is) ?_
 refine ops_y hH rfl rfl (yv_eql rfl rfl) ?_
 refine ops_nil (thn_n ?_)
 by_cases hc1 : (l.length : Int) = 0
 ·skip
  refine cond_t rfl (dT hc1) ?_
  refine seq (region ?_)
  refine op_fnV rfl rfl rfl hH (c68 (by first | omega | (simp only [List.length_append, List.length_cons, List.length_nil]; omega))) (fun w2 hH3 => ?_)
  refine oA hH3 rfl rfl (ops_nil (thn_n (ret (thn_r ?_))))
  refine fin hH3 (fun w' hf => (res1 rfl (show RV _ _ _ (.tmp 2) _ from rfl))) (fun w' hf => ?_)
  first | rw [B.root_nil (by omega)] | rw [hrt]
 ·skip
  refine cond_f rfl (dF hc1) ?_
  refine skip (thn_n (seq ?_))
  have hrt := hW.root (by omega)
  refine region_draw (fun w' => Heap [base w] w') T.mixed (fun w4 hr5 => ?_)
  have hH6 := hH.redrawn hr5
  refine any_takes [0, 1, 2, 3, 4, 5, 6, 7, 8, 9, 10, 11, 12] (by kernel_rfl) hH6 _ _ _ (by kernel_rfl) ?_
  refine qM rfl rfl rfl ?_
  refine qs_y rfl rfl (yv_nilck rfl) ?_
  refine qs_y rfl rfl (yv_field T.f138_1 rfl) ?_
  refine qs_y rfl rfl (yv_load T.one136 rfl (fun _ hw => bx_cell ((hd.now hw (n := 0) rfl).1) rfl)) ?_
  refine qM rfl rfl rfl ?_
  refine qs_y rfl rfl (yv_nilck rfl) ?_
  refine qs_y rfl rfl (yv_field T.f138_0 rfl) ?_
  refine qs_y rfl rfl (yv_field T.f24_0 rfl) ?_
  refine qs_y rfl rfl (yv_load T.one22 rfl (fun _ hw => bx_cell ((hd.now hw (n := 0) rfl).1) rfl)) ?_
  refine qs_y rfl rfl (yv_len T.sl22 rfl ((hd.now hH6 (n := 0) rfl).2).is) ?_
  refine qs_y rfl rfl (yv_build (v := (.agg #[(.int .i64 0), (.int .i64 (l.length : Int))])) (us := [(0, (.int .i64 0)), (1, (.int .i64 (l.length : Int)))]) (fun a ha => by simp [ha.ev (show ev _ (.const (.int .i64 0)) = some _ from rfl), ha.ev (show ev _ (.tmp 20) = some _ from rfl)]) (fun w => by kernel_rfl)) ?_
  refine qs_y rfl rfl (yv_lookup (k := ((0, (l.length : Int)) : Int × Int)) T.m136 rfl rfl (fun _ hw => (hm.now hw (n := 0) rfl))) ?_
  refine qs_y rfl rfl (yv_assign rfl) (qs_nil ?_)
  refine any_done (by kernel_rfl) ?_
  refine thn_n (ret ?_)
  refine fin hH6 (fun w' hf => (res1 rfl (show RV _ _ _ (.tmp 2) _ from rfl))) (fun w' hf => ?_)
  first | rw [B.root_nil (by omega)] | rw [hrt]
def B.rootR (l : List En) : UInt64 × Int := if B.ck l = 0 then (B.root l, 0) else (0, B.ck l)
theorem B.ro1 {l : List En} (h : ¬ B.ck l = 0) : B.rootR l = (0, B.ck l) := by unfold B.rootR; rw [if_neg h]
theorem B.ro2 {l : List En} (h : B.ck l = 0) : B.rootR l = (B.root l, 0) := by unfold B.rootR; rw [if_pos h]
theorem tupW {p : UInt64 × Int} {a : UInt64} {b : Int} (h : p = (a, b)) : Value.tuple #[.int .u64 (a.toNat : Int), .int .i64 b] = .tuple #[.int .u64 (p.1.toNat : Int), .int .i64 p.2] := by subst h; rfl
theorem tupI {p : Int × Int} {a b : Int} (h : p = (a, b)) : Value.tuple #[.int .i64 a, .int .i64 b] = .tuple #[.int .i64 p.1, .int .i64 p.2] := by subst h; rfl
theorem c25 {v : Value} {l : List En} {w : World} (h0 : Rd encE 5 v l w) (hn : l.length ≤ 1000000) (hG : Gl w)  :
  Fn Tryz.prog 25 [(.agg #[v])].toArray w (fun u _ => u = .tuple #[.int .u64 ((B.rootR l).1.toNat : Int), .int .i64 (B.rootR l).2]) := by
 refine fn_of' (args := [(.agg #[v])]) Tryz.func25 rfl (ent Tryz.func25 (by kernel_rfl) rfl) rfl rfl (fun hH => ?_)
 refine seq (region ?_)
 refine op_box (us := [v]) rfl rfl rfl hH (fun b1 w2 hH3 => ?_)
 refine oA hH3 rfl rfl (oA hH3 rfl rfl (ops_nil (thn_n (seq ?_))))
 by_cases hc4 : B.ck l = 0
 ·skip
  have hc0 : B.ck l = 0 := ‹_›
  have hbk := B.ck_iff.1 hc0
  have hin0 := hbk.2.1
  have hl24 := hbk.1
  refine region ?_
  refine ops_y hH3 rfl rfl (yv_loadA (cs := [v]) T.agg24 rfl rfl (fun _ hw => Heap.cellsw hw (n := 0) rfl (k := 0) rfl)) ?_
  refine op_fn rfl rfl rfl hH3 (c56g (h0.now hH3 (n := 1) rfl) (by omega) (hG.now hH3 (n := 1) rfl) hc0) (fun u7 w5 lo8 hi9 hH6 hv10 => ?_)
  obtain ⟨dbD12, hu, hrowD12⟩ := hv10
  subst hu
  obtain ⟨mbD12, esD12, clD12, mD12, hentsD12, hwholeD12, hH11⟩ := Heap.fixMap hH6 (n := 0) rfl (fun w' h => by obtain ⟨rb', e, h⟩ := h; cases e; exact h)
  refine oM hH11 rfl rfl (ops_y hH11 rfl rfl (yv_extract rfl rfl) (ops_y hH11 rfl rfl (yv_extract rfl rfl) (oA hH11 rfl rfl (oA hH11 rfl rfl (ops_nil (thn_n (seq (seq (region ?_)))))))))
  refine oM hH11 rfl rfl ?_
  refine ops_y hH11 rfl rfl (yv_neq rfl rfl) ?_
  refine ops_nil (thn_n ?_)
  refine cond_f rfl rfl ?_
  refine skip (thn_n (seq (region (oM hH11 rfl rfl ?_))))
  refine op_fnV rfl rfl rfl hH11 (c70 ⟨((show RowAt 138 dbD12 v mbD12 esD12 clD12 _ from hH11.get (n := 0) rfl).1), (h0.now hH11 (n := 2) rfl)⟩ ((hentsD12.mp (show RowAt 138 dbD12 v mbD12 esD12 clD12 _ from hH11.get (n := 0) rfl).2)) hwholeD12) (fun w13 hH14 => ?_)
  refine oA hH14 rfl rfl (oA hH14 rfl rfl (ops_nil (thn_n (ret ?_))))
  have hH15 := (hH14.sub (sC (sC sR)))
  refine fin hH15 (fun w' hf => (res2 rfl (show RV _ _ _ (.tmp 2) _ from rfl) (show RV _ _ _ (.tmp 3) _ from rfl))) (fun w' hf => ?_)
  first | exact tupW (a := 0) (B.ro1 hcn) | exact tupW (B.ro2 hc0)
 ·skip
  have hcn : ¬ B.ck l = 0 := ‹_›
  refine region ?_
  refine ops_y hH3 rfl rfl (yv_loadA (cs := [v]) T.agg24 rfl rfl (fun _ hw => Heap.cellsw hw (n := 0) rfl (k := 0) rfl)) ?_
  refine op_fnV rfl rfl rfl hH3 (c56b (h0.now hH3 (n := 1) rfl) (by omega) hcn) (fun w16 hH17 => ?_)
  refine oM hH17 rfl rfl (ops_y hH17 rfl rfl (yv_extract rfl rfl) (ops_y hH17 rfl rfl (yv_extract rfl rfl) (oA hH17 rfl rfl (oA hH17 rfl rfl (ops_nil (thn_n (seq (seq (region ?_)))))))))
  refine oM hH17 rfl rfl ?_
  refine ops_y hH17 rfl rfl (yv_neq rfl rfl) ?_
  refine ops_nil (thn_n ?_)
  have hc18 : ¬ ((B.ck l) = 0) := hcn
  refine cond_t rfl (not_decide_t hc18) ?_
  refine seq (region (oM hH17 rfl rfl (oA hH17 rfl rfl (oA hH17 rfl rfl (ops_nil (thn_n (ret (thn_r ?_))))))))
  have hH19 := (hH17.sub (sC sR))
  refine fin hH19 (fun w' hf => (res2 rfl (show RV _ _ _ (.tmp 2) _ from rfl) (show RV _ _ _ (.tmp 3) _ from rfl))) (fun w' hf => ?_)
  first | exact tupW (a := 0) (B.ro1 hcn) | exact tupW (B.ro2 hc0)
theorem c26 {v : Value} {l : List En} {w : World} (h0 : Rd encE 5 v l w) (hn : l.length ≤ 1000000)  :
  Fn Tryz.prog 26 [(.agg #[v])].toArray w (fun u _ => u = .tuple #[.int .u64 ((B.rootR l).1.toNat : Int), .int .i64 (B.rootR l).2]) := by
 refine fn_of' (args := [(.agg #[v])]) Tryz.func26 rfl (ent Tryz.func26 (by kernel_rfl) rfl) rfl rfl (fun hH => ?_)
 refine seq (region ?_)
 refine op_box (us := [v]) rfl rfl rfl hH (fun b1 w2 hH3 => ?_)
 refine oA hH3 rfl rfl (oA hH3 rfl rfl (ops_nil (thn_n (seq (seq ?_)))))
 by_cases hc4 : B.ck l = 0
 ·skip
  have hc0 : B.ck l = 0 := ‹_›
  have hbk := B.ck_iff.1 hc0
  have hin0 := hbk.2.1
  have hl24 := hbk.1
  refine region ?_
  refine ops_y hH3 rfl rfl (yv_loadA (cs := [v]) T.agg24 rfl rfl (fun _ hw => Heap.cellsw hw (n := 0) rfl (k := 0) rfl)) ?_
  refine op_fnV rfl rfl rfl hH3 (c22 (h0.now hH3 (n := 1) rfl) (by omega)) (fun w5 hH6 => ?_)
  refine ops_y hH6 rfl rfl (yv_neq rfl rfl) ?_
  refine ops_nil (thn_n ?_)
  have hc7 : ¬ (¬ ((B.ck l) = 0)) := fun h => h hc0
  refine cond_f rfl (not_decide_f hc7) ?_
  refine skip (thn_n (seq (region ?_)))
  refine ops_y hH6 rfl rfl (yv_field T.f24_0 rfl) ?_
  refine ops_y hH6 rfl rfl (yv_load T.one22 rfl (fun _ hw => Heap.cellw hw (n := 0) rfl rfl)) ?_
  refine op_fnV rfl rfl rfl hH6 (c44 (h0.now hH6 (n := 1) rfl) (by omega) hin0) (fun w8 hH9 => ?_)
  refine oA hH9 rfl rfl (oA hH9 rfl rfl (ops_nil (thn_n (ret ?_))))
  have hH10 := (hH9.sub (sC sR))
  refine fin hH10 (fun w' hf => (res2 rfl (show RV _ _ _ (.tmp 2) _ from rfl) (show RV _ _ _ (.tmp 3) _ from rfl))) (fun w' hf => ?_)
  first | exact tupW (a := 0) (B.ro1 hcn) | exact tupW (B.ro2 hc0)
 ·skip
  have hcn : ¬ B.ck l = 0 := ‹_›
  refine region ?_
  refine ops_y hH3 rfl rfl (yv_loadA (cs := [v]) T.agg24 rfl rfl (fun _ hw => Heap.cellsw hw (n := 0) rfl (k := 0) rfl)) ?_
  refine op_fnV rfl rfl rfl hH3 (c22 (h0.now hH3 (n := 1) rfl) (by omega)) (fun w11 hH12 => ?_)
  refine ops_y hH12 rfl rfl (yv_neq rfl rfl) ?_
  refine ops_nil (thn_n ?_)
  have hc13 : ¬ ((B.ck l) = 0) := hcn
  refine cond_t rfl (not_decide_t hc13) ?_
  refine seq (region ?_)
  refine ops_y hH12 rfl rfl (yv_loadA (cs := [v]) T.agg24 rfl rfl (fun _ hw => Heap.cellsw hw (n := 0) rfl (k := 0) rfl)) ?_
  refine op_fnV rfl rfl rfl hH12 (c22 (h0.now hH12 (n := 1) rfl) (by omega)) (fun w14 hH15 => ?_)
  refine oA hH15 rfl rfl (oA hH15 rfl rfl (ops_nil (thn_n (ret (thn_r ?_)))))
  have hH16 := (hH15.sub (sC sR))
  refine fin hH16 (fun w' hf => (res2 rfl (show RV _ _ _ (.tmp 2) _ from rfl) (show RV _ _ _ (.tmp 3) _ from rfl))) (fun w' hf => ?_)
  first | exact tupW (a := 0) (B.ro1 hcn) | exact tupW (B.ro2 hc0)
def B.sumR (l : List UInt8) : UInt64 × Int := if l.length ≤ 1000 then (B.sm l, 0) else (0, 7)
theorem B.su1 {l : List UInt8} (h : l.length ≤ 1000) : B.sumR l = (B.sm l, 0) := by unfold B.sumR; rw [if_pos h]
theorem B.su2 {l : List UInt8} (h : ¬ l.length ≤ 1000) : B.sumR l = (0, 7) := by unfold B.sumR; rw [if_neg h]
theorem c23 {l : List UInt8} {w : World}  :
  Fn Tryz.prog 23 [(str l)].toArray w (fun u _ => u = .tuple #[.int .u64 ((B.sumR l).1.toNat : Int), .int .i64 (B.sumR l).2]) := by
 refine fn_of' (args := [(str l)]) Tryz.func23 rfl (ent Tryz.func23 (by kernel_rfl) rfl) rfl rfl (fun hH => ?_)
 refine seq (region (oA hH rfl rfl (oA hH rfl rfl (ops_nil (thn_n (seq (seq (region (oM hH rfl rfl ?_)))))))))
 refine ops_y hH rfl rfl (yv_lenS Tryz.underlying9 rfl) ?_
 refine ops_y hH rfl rfl (yv_gtr rfl rfl) ?_
 refine ops_nil (thn_n ?_)
 by_cases hc1 : 1000 < (l.length : Int)
 ·skip
  refine cond_t rfl (dT hc1) ?_
  refine seq (region (oA hH rfl rfl (oA hH rfl rfl (ops_nil (thn_n (ret (thn_r ?_)))))))
  refine fin hH (fun w' hf => (res2 rfl (show RV _ _ _ (.tmp 2) _ from rfl) (show RV _ _ _ (.tmp 3) _ from rfl))) (fun w' hf => ?_)
  first | exact tupW (a := 0) (B.su2 (by omega)) | exact tupW (B.su1 (by omega))
 ·skip
  refine cond_f rfl (dF hc1) ?_
  refine skip (thn_n (seq (region (oM hH rfl rfl ?_))))
  refine op_fnV rfl rfl rfl hH (c68 (by first | omega | (simp only [List.length_append, List.length_cons, List.length_nil]; omega))) (fun w2 hH3 => ?_)
  refine oA hH3 rfl rfl (oA hH3 rfl rfl (ops_nil (thn_n (ret ?_))))
  refine fin hH3 (fun w' hf => (res2 rfl (show RV _ _ _ (.tmp 2) _ from rfl) (show RV _ _ _ (.tmp 3) _ from rfl))) (fun w' hf => ?_)
  first | exact tupW (a := 0) (B.su2 (by omega)) | exact tupW (B.su1 (by omega))
theorem c24 {l : List UInt8} {w : World}  :
  Fn Tryz.prog 24 [(str l)].toArray w (fun u _ => u = .tuple #[.int .u64 ((B.sumR l).1.toNat : Int), .int .i64 (B.sumR l).2]) := by
 refine fn_of' (args := [(str l)]) Tryz.func24 rfl (ent Tryz.func24 (by kernel_rfl) rfl) rfl rfl (fun hH => ?_)
 refine seq (region (oA hH rfl rfl (oA hH rfl rfl (ops_nil (thn_n (seq (seq (region (oM hH rfl rfl ?_)))))))))
 refine ops_y hH rfl rfl (yv_lenS Tryz.underlying9 rfl) ?_
 refine ops_y hH rfl rfl (yv_gtr rfl rfl) ?_
 refine ops_nil (thn_n ?_)
 by_cases hc1 : 1000 < (l.length : Int)
 ·skip
  refine cond_t rfl (dT hc1) ?_
  refine seq (region (oA hH rfl rfl (oA hH rfl rfl (ops_nil (thn_n (ret (thn_r ?_)))))))
  refine fin hH (fun w' hf => (res2 rfl (show RV _ _ _ (.tmp 2) _ from rfl) (show RV _ _ _ (.tmp 3) _ from rfl))) (fun w' hf => ?_)
  first | exact tupW (a := 0) (B.su2 (by omega)) | exact tupW (B.su1 (by omega))
 ·skip
  refine cond_f rfl (dF hc1) ?_
  refine skip (thn_n (seq (region (oM hH rfl rfl ?_))))
  refine op_fnV rfl rfl rfl hH (c69 (l := l) (by first | omega | (unfold B.leaf; simp only [List.length_append, List.length_cons, List.length_nil]; omega) | (rw [hbl]; omega) | (simp only [List.length_append, List.length_cons, List.length_nil]; omega))) (fun w2 hH3 => ?_)
  refine oA hH3 rfl rfl (oA hH3 rfl rfl (ops_nil (thn_n (ret ?_))))
  refine fin hH3 (fun w' hf => (res2 rfl (show RV _ _ _ (.tmp 2) _ from rfl) (show RV _ _ _ (.tmp 3) _ from rfl))) (fun w' hf => ?_)
  first | exact tupW (a := 0) (B.su2 (by omega)) | exact tupW (B.su1 (by omega))
end Go.Fip
namespace Go.Fip
open Go.Proofs Go.RowKit
theorem T.eqi82 : EqI Tryz.prog 82 10 := eqi_arr (i := Tryz.t2) Tryz.underlying82 (by kernel_rfl) (by kernel_rfl) (fun _ => by kernel_rfl) (by kernel_rfl) (by kernel_rfl)
theorem B.balS {l : List En} {a d : Int} {k : Nat} (hk : k < l.length) (hd : d < (nth l (k : Int)).d) : B.balTo l a d k = B.balTo l a d (k + 1) := by
 rw [B.balTo_succ hk]; unfold B.eff; rw [if_pos hd]; omega
theorem B.balT {l : List En} {a d : Int} {k : Nat} (hk : k < l.length) (hd : ¬ d < (nth l (k : Int)).d) : B.balTo l a d (k + 1) = B.balTo l a d k + ((if (nth l (k : Int)).t = a then (nth l (k : Int)).a else 0) - (if (nth l (k : Int)).f = a then (nth l (k : Int)).a else 0)) := by
 rw [B.balTo_succ hk]; unfold B.eff; rw [if_neg hd]
theorem c131 {db mb b1 b2 : Nat} {v : Value} {l : List En} {w : World} {i day : Int} (hd : DeskK db mb v l w) (k1 : Bx b1 77 [.pointer (some ⟨db, 0, none⟩)] w) (k2 : Bx b2 2 [.int .i64 day] w) (hi : 0 ≤ i ∧ i < (l.length : Int))  :
  Fn Tryz.prog 131 [(.int .i64 i), (.pointer (some ⟨b1, 0, none⟩)), (.pointer (some ⟨b2, 0, none⟩))].toArray w (fun u _ => u = .bool (decide ((nth l i).d ≤ day))) := by
 refine fn_of' (args := [(.int .i64 i), (.pointer (some ⟨b1, 0, none⟩)), (.pointer (some ⟨b2, 0, none⟩))]) Tryz.func131 rfl (ent Tryz.func131 (by kernel_rfl) rfl) rfl rfl (fun hH => ?_)
 refine seq (region (oA hH rfl rfl (ops_nil (thn_n (seq ?_)))))
 refine region_draw (fun w' => Heap [base w] w') T.mixed (fun w1 hr2 => ?_)
 have hH3 := hH.redrawn hr2
 refine any_takes [0, 1, 2, 3, 4, 5, 6, 7, 8, 9, 10, 11] (by kernel_rfl) hH3 _ _ _ (by kernel_rfl) ?_
 refine qs_y rfl rfl (yv_load T.one77 rfl (fun _ hw => bx_cell (k1.now hw (n := 0) rfl) rfl)) ?_
 refine qs_y rfl rfl (yv_nilck rfl) ?_
 refine qs_y rfl rfl (yv_field T.f138_0 rfl) ?_
 refine qs_y rfl rfl (yv_field T.f24_0 rfl) ?_
 refine qs_y rfl rfl (yv_load T.one22 rfl (fun _ hw => bx_cell ((hd.now hw (n := 0) rfl).1) rfl)) ?_
 refine qM rfl rfl rfl ?_
 refine qs_y rfl rfl (yv_index T.sl22 rfl rfl ((hd.now hH3 (n := 0) rfl).2).is (by omega)) ?_
 refine qs_y rfl rfl (yv_field T.f38_1 rfl) ?_
 refine qs_y rfl rfl (yv_load T.one2 rfl (fun _ hw => Rd.at ((hd.now hw (n := 0) rfl).2) (i := i) (by omega) (j := 1) rfl)) ?_
 refine qs_y rfl rfl (yv_load T.one2 rfl (fun _ hw => bx_cell (k2.now hw (n := 0) rfl) rfl)) ?_
 refine qs_y rfl rfl (yv_leq rfl rfl) ?_
 refine qs_y rfl rfl (yv_assign rfl) (qs_nil ?_)
 refine any_done (by kernel_rfl) ?_
 refine thn_n (ret ?_)
 refine fin hH3 (fun w' hf => (res1 rfl (show RV _ _ _ (.tmp 4) _ from rfl))) (fun w' hf => ?_)
 rfl
theorem c103 {db : Nat} {day : Int} {w : World}  :
  Fn Tryz.prog 103 [(.pointer (some ⟨db, 0, none⟩)), (.int .i64 day)].toArray w (fun u w => ∃ c1 c2 : Nat, u = .func (.func 131) #[] #[.pointer (some ⟨c1, 0, none⟩), .pointer (some ⟨c2, 0, none⟩)] ∧ (Bx c1 77 [.pointer (some ⟨db, 0, none⟩)] w ∧ Bx c2 2 [.int .i64 day] w)) := by
 refine fn_of' (args := [(.pointer (some ⟨db, 0, none⟩)), (.int .i64 day)]) Tryz.func103 rfl (ent Tryz.func103 (by kernel_rfl) rfl) rfl rfl (fun hH => ?_)
 refine seq (region ?_)
 refine op_box (us := [(.pointer (some ⟨db, 0, none⟩))]) rfl rfl rfl hH (fun b1 w2 hH3 => ?_)
 refine op_box (us := [(.int .i64 day)]) rfl rfl rfl hH3 (fun b4 w5 hH6 => ?_)
 refine oA hH6 rfl rfl (ops_nil (thn_n (seq (region ?_))))
 refine ops_y hH6 rfl rfl (yv_func rfl rfl) ?_
 refine oA hH6 rfl rfl (ops_nil (thn_n (ret ?_)))
 refine fin (hH6.front (n := 2) rfl) (fun w' hf => (res1 rfl (show RV _ _ _ (.tmp 4) _ from rfl))) (fun w' hf => ?_)
 refine ⟨_, _, rfl, ?_⟩
 exact ⟨Heap.bxw hf (n := 1) rfl, Heap.bxw hf (n := 0) rfl⟩
theorem Heap.twoBx {H : List Item} {w : World} {n lo hi c1 c2 t1 t2 : Nat} {x y : Value} {φ : World → Prop} (hH : Heap H w) (hn : H[n]? = some ⟨lo, hi, φ⟩) (h : ∀ w, φ w → Bx c1 t1 [x] w ∧ Bx c2 t2 [y] w) : Heap (H.set n ⟨lo, hi, fun w => Bx c1 t1 [x] w ∧ Bx c2 t2 [y] w⟩) w := by
 have hok := hH.okAt hn
 exact hH.swapItem hn ⟨hok.1, hok.2.1, fun w' ha => h w' (hok.2.2 w' ha)⟩
theorem c58 {db mb : Nat} {v : Value} {l : List En} {m : B.Ms} {w : World} (hd : DeskK db mb v l w) (hm : Mp B.kvS B.vvW mb m w) (hW : B.Whole l m) (hin : B.InR l) (hn : l.length ≤ 24) {day : Int}  :
  Fn Tryz.prog 58 [(.pointer (some ⟨db, 0, none⟩)), (.int .i64 day)].toArray w (fun u _ => u = ag (B.bals l day l.length)) := by
 refine fn_of' (args := [(.pointer (some ⟨db, 0, none⟩)), (.int .i64 day)]) Tryz.func58 rfl (ent Tryz.func58 (by kernel_rfl) rfl) rfl rfl (fun hH => ?_)
 refine seq (region ?_)
 refine op_alloc (z := (.agg #[(.int .i64 0), (.int .i64 0), (.int .i64 0), (.int .i64 0), (.int .i64 0), (.int .i64 0), (.int .i64 0), (.int .i64 0), (.int .i64 0), (.int .i64 0)])) (us := [(.int .i64 0), (.int .i64 0), (.int .i64 0), (.int .i64 0), (.int .i64 0), (.int .i64 0), (.int .i64 0), (.int .i64 0), (.int .i64 0), (.int .i64 0)]) (fun _ => by kernel_rfl) rfl rfl hH (fun b1 w2 hH3 => ?_)
 refine ops_nil (thn_n (seq (region ?_)))
 refine op_alloc (z := (.agg #[(.int .i64 0), (.int .i64 0), (.int .i64 0), (.int .i64 0), (.int .i64 0), (.int .i64 0), (.int .i64 0), (.int .i64 0), (.int .i64 0), (.int .i64 0)])) (us := [(.int .i64 0), (.int .i64 0), (.int .i64 0), (.int .i64 0), (.int .i64 0), (.int .i64 0), (.int .i64 0), (.int .i64 0), (.int .i64 0), (.int .i64 0)]) (fun _ => by kernel_rfl) rfl rfl hH3 (fun b4 w5 hH6 => ?_)
 refine ops_nil (thn_n (seq ?_))
 have hH7 := Heap.recastBx hH6 (n := 0) rfl (show [(.int .i64 0), (.int .i64 0), (.int .i64 0), (.int .i64 0), (.int .i64 0), (.int .i64 0), (.int .i64 0), (.int .i64 0), (.int .i64 0), (.int .i64 0)] = ints (List.replicate 10 (0 : Int)) from rfl)
 refine region ?_
 refine ops_y hH7 rfl rfl (yv_all T.arr82 rfl) ?_
 refine op_clearA T.el131_encI T.z131_encI (C := (List.replicate 10 (0 : Int))) rfl (by first | rfl | omega) (by decide) rfl hH7 (n := 0) rfl (fun w8 hH9 => ?_)
 refine ops_nil (thn_n (seq ?_))
 have hH10 := Heap.recastBx hH9 (n := 0) rfl (show (ints (List.replicate 10 (0 : Int))) = ints (B.bals l day 0) from congrArg ints B.bals_zero)
 refine region (oM hH10 rfl rfl (oM hH10 rfl rfl ?_))
 refine op_fn rfl rfl rfl hH10 (c103 (db := db) (day := day)) (fun u15 w13 lo16 hi17 hH14 hv18 => ?_)
 obtain ⟨c11, c12, hu, -⟩ := hv18
 subst hu
 have hH19 := Heap.twoBx hH14 (n := 0) rfl (fun w' h => (by obtain ⟨c1', c2', e, h⟩ := h; cases e; exact h : Bx c11 77 [.pointer (some ⟨db, 0, none⟩)] w' ∧ Bx c12 2 [.int .i64 day] w'))
 refine oA hH19 rfl rfl (ops_nil (thn_n (seq (seq (region (oM hH19 rfl rfl ?_))))))
 refine ops_y hH19 rfl rfl (yv_nilck rfl) ?_
 refine ops_y hH19 rfl rfl (yv_field T.f138_0 rfl) ?_
 refine ops_y hH19 rfl rfl (yv_field T.f24_0 rfl) ?_
 refine ops_y hH19 rfl rfl (yv_load T.one22 rfl (fun _ hw => bx_cell ((hd.now hw (n := 3) rfl).1) rfl)) ?_
 refine ops_y hH19 rfl rfl (yv_len T.sl22 rfl ((hd.now hH19 (n := 3) rfl).2).is) ?_
 refine oM hH19 rfl rfl (ops_nil (thn_n (block ?_)))
 refine loop (S := Nat) (fun k => [(19, (.int .i64 (k : Int))), (4, (.pointer (some ⟨b1, 0, none⟩))), (5, (.pointer (some ⟨b4, 0, none⟩))), (6, (.func (.func 131) #[] #[(.pointer (some ⟨c11, 0, none⟩)), (.pointer (some ⟨c12, 0, none⟩))])), (17, v), (18, (.int .i64 (l.length : Int)))]) (fun k w1 => Heap [⟨lo16, hi17, fun w => Bx c11 77 [.pointer (some ⟨db, 0, none⟩)] w ∧ Bx c12 2 [.int .i64 day] w⟩, bx b4 82 (ints (B.bals l day k)), bx b1 82 [(.int .i64 0), (.int .i64 0), (.int .i64 0), (.int .i64 0), (.int .i64 0), (.int .i64 0), (.int .i64 0), (.int .i64 0), (.int .i64 0), (.int .i64 0)], base w] w1 ∧ k ≤ l.length) (fun k => l.length - k) (0) (uC rfl (uC rfl (uC rfl (uC rfl (uC rfl (uC rfl (Sub.nil _))))))) ?_ ?_
 ·exact ⟨hH19, by omega⟩
 ·rintro k w20 ⟨hH21, hk⟩
  show Holds _ _ _ _ _ [(19, (.int .i64 (k : Int))), (4, (.pointer (some ⟨b1, 0, none⟩))), (5, (.pointer (some ⟨b4, 0, none⟩))), (6, (.func (.func 131) #[] #[(.pointer (some ⟨c11, 0, none⟩)), (.pointer (some ⟨c12, 0, none⟩))])), (17, v), (18, (.int .i64 (l.length : Int)))] _ _
  refine seq (region ?_)
  refine ops_y hH21 rfl rfl (yv_lss rfl rfl) ?_
  refine ops_nil (thn_n (seq ?_))
  by_cases hc22 : (k : Int) < (l.length : Int)
  ·skip
   refine cond_t rfl (dT hc22) ?_
   refine skip (thn_n (seq (block (seq (region (oM hH21 rfl rfl ?_))))))
   refine ops_y hH21 rfl rfl (yv_index T.sl22 rfl rfl ((hd.now hH21 (n := 3) rfl).2).is (by omega)) ?_
   refine ops_y hH21 rfl rfl (yv_loadA (cs := [(.int .i64 ((nth l (k : Int)).n)), (.int .i64 ((nth l (k : Int)).d)), (.int .i64 ((nth l (k : Int)).f)), (.int .i64 ((nth l (k : Int)).t)), (.int .i64 ((nth l (k : Int)).a))]) T.agg38 rfl rfl (fun _ hw => Rd.atA ((hd.now hw (n := 3) rfl).2) (i := (k : Int)) (by omega))) ?_
   refine op_alloc (z := (.agg #[(.int .i64 0), (.int .i64 0), (.int .i64 0), (.int .i64 0), (.int .i64 0)])) (us := [(.int .i64 0), (.int .i64 0), (.int .i64 0), (.int .i64 0), (.int .i64 0)]) (fun _ => by kernel_rfl) rfl rfl hH21 (fun b23 w24 hH25 => ?_)
   refine oA hH25 rfl rfl ?_
   refine op_store (n := 0) (j := 0) (us := [(.int .i64 ((nth l (k : Int)).n)), (.int .i64 ((nth l (k : Int)).d)), (.int .i64 ((nth l (k : Int)).f)), (.int .i64 ((nth l (k : Int)).t)), (.int .i64 ((nth l (k : Int)).a))]) rfl rfl hH25 rfl T.sz38 rfl rfl rfl (by rfl) (fun w26 hH27 => ?_)
   refine ops_nil (thn_n (seq ?_))
   have hek := hin k (by omega)
   have hek2 := hek
   unfold B.isEn at hek2
   have hbl := B.bals_len (l := l) (d := day) (k := k)
   have hbt := B.bals_bd (d := day) (a := (nth l (k : Int)).t) (k := k) hin (by omega) hn (by omega)
   have hbf := B.bals_bd (d := day) (a := (nth l (k : Int)).f) (k := k) hin (by omega) hn (by omega)
   refine region (oM hH27 rfl rfl (oM hH27 rfl rfl ?_))
   refine op_fnV rfl rfl rfl hH27 (c131 (i := (k : Int)) ⟨((hd.now hH27 (n := 4) rfl).1), ((hd.now hH27 (n := 4) rfl).2)⟩ ((hH27.get (n := 1) rfl).1) ((hH27.get (n := 1) rfl).2) (by omega)) (fun w28 hH29 => ?_)
   refine ops_nil (thn_n ?_)
   by_cases hc30 : (nth l (k : Int)).d ≤ day
   ·skip
    have hdk : (nth l (k : Int)).d ≤ day := ‹_›
    refine cond_t rfl (dT hc30) ?_
    refine seq ?_
    refine region_drawY (fun w' => Heap [bx b23 38 [(.int .i64 ((nth l (k : Int)).n)), (.int .i64 ((nth l (k : Int)).d)), (.int .i64 ((nth l (k : Int)).f)), (.int .i64 ((nth l (k : Int)).t)), (.int .i64 ((nth l (k : Int)).a))], ⟨lo16, hi17, fun w => Bx c11 77 [.pointer (some ⟨db, 0, none⟩)] w ∧ Bx c12 2 [.int .i64 day] w⟩, bx b1 82 [(.int .i64 0), (.int .i64 0), (.int .i64 0), (.int .i64 0), (.int .i64 0), (.int .i64 0), (.int .i64 0), (.int .i64 0), (.int .i64 0), (.int .i64 0)], base w] w') [8] T.mixed (fun w31 hr32 => ?_)
    have hH33 := hH29.redrawn hr32
    refine any_takesT [0, 4] (by kernel_rfl)  _ _ _ (by kernel_rfl) ?_
    refine qs_y rfl rfl (yv_field T.f38_3 rfl) ?_
    refine qs_y rfl rfl (yv_field T.f38_4 rfl) ?_
    refine qs_nil ?_
    refine any_takesY [1, 5] (by kernel_rfl) (hH33.sub (List.Sublist.cons_cons _ (List.Sublist.cons_cons _ (sC sR)))) _ _ _ (by kernel_rfl) ?_
    refine qs_y rfl rfl (yv_load T.one2 rfl (fun _ hw => Heap.cellw hw (n := 0) rfl rfl)) ?_
    refine qs_y rfl rfl (yv_load T.one2 rfl (fun _ hw => Heap.cellw hw (n := 0) rfl rfl)) ?_
    refine qs_nil ?_
    refine any_takesT [2] (by kernel_rfl)  _ _ _ (by kernel_rfl) ?_
    refine qs_y rfl rfl (yv_indexA T.arr82 rfl rfl (by omega)) ?_
    refine qs_nil ?_
    refine any_allY [3] (by kernel_rfl) rfl ?_
    refine ⟨⟨_, rfl, ?_⟩, trivial⟩
    ·skip
     refine ops_y hH33 rfl rfl (yv_loadE T.one2 rfl (by omega) (fun _ hw => Heap.bxw hw (n := 2) rfl)) ?_
     refine ops_nil ?_
     refine ⟨fun _ _ => (hH33.sub (List.Sublist.cons_cons _ (List.Sublist.cons_cons _ (sC sR)))), ?_⟩
     refine any_takesT [6, 7] (by kernel_rfl)  _ _ _ (by kernel_rfl) ?_
     refine qs_y rfl rfl (yv_add rfl rfl (by omega)) ?_
     refine qs_y rfl rfl (yv_indexA T.arr82 rfl rfl (by omega)) ?_
     refine qs_nil ?_
     refine any_allY [8] (by kernel_rfl) rfl ?_
     refine ⟨⟨_, rfl, ?_⟩, trivial⟩
     ·skip
      refine op_setA (n := 2) rfl rfl hH33 rfl T.sz2 (by omega) (fun w34 hH35 => ?_)
      refine ops_nil ?_
      refine ⟨(fun h => by cases h), ?_⟩
      refine any_doneY (by kernel_rfl) ?_
      refine thn_n ?_
      have hns : nth ((B.bals l day k).set (nth l (k : Int)).t.toNat (nth (B.bals l day k) (nth l (k : Int)).t + (nth l (k : Int)).a)) (nth l (k : Int)).f = if (nth l (k : Int)).f = (nth l (k : Int)).t then nth (B.bals l day k) (nth l (k : Int)).t + (nth l (k : Int)).a else nth (B.bals l day k) (nth l (k : Int)).f := B.nth_set (by omega) (by omega)
      have hnl : ((B.bals l day k).set (nth l (k : Int)).t.toNat (nth (B.bals l day k) (nth l (k : Int)).t + (nth l (k : Int)).a)).length = 10 := by rw [List.length_set]; exact hbl
      refine region_drawY (fun w' => Heap [bx b23 38 [(.int .i64 ((nth l (k : Int)).n)), (.int .i64 ((nth l (k : Int)).d)), (.int .i64 ((nth l (k : Int)).f)), (.int .i64 ((nth l (k : Int)).t)), (.int .i64 ((nth l (k : Int)).a))], ⟨lo16, hi17, fun w => Bx c11 77 [.pointer (some ⟨db, 0, none⟩)] w ∧ Bx c12 2 [.int .i64 day] w⟩, bx b1 82 [(.int .i64 0), (.int .i64 0), (.int .i64 0), (.int .i64 0), (.int .i64 0), (.int .i64 0), (.int .i64 0), (.int .i64 0), (.int .i64 0), (.int .i64 0)], base w] w') [8] T.mixed (fun w36 hr37 => ?_)
      have hH38 := hH35.redrawn hr37
      refine any_takesT [0, 4] (by kernel_rfl)  _ _ _ (by kernel_rfl) ?_
      refine qs_y rfl rfl (yv_field T.f38_2 rfl) ?_
      refine qs_y rfl rfl (yv_field T.f38_4 rfl) ?_
      refine qs_nil ?_
      refine any_takesY [1, 5] (by kernel_rfl) (hH38.sub (List.Sublist.cons_cons _ (List.Sublist.cons_cons _ (sC sR)))) _ _ _ (by kernel_rfl) ?_
      refine qs_y rfl rfl (yv_load T.one2 rfl (fun _ hw => Heap.cellw hw (n := 0) rfl rfl)) ?_
      refine qs_y rfl rfl (yv_load T.one2 rfl (fun _ hw => Heap.cellw hw (n := 0) rfl rfl)) ?_
      refine qs_nil ?_
      refine any_takesT [2] (by kernel_rfl)  _ _ _ (by kernel_rfl) ?_
      refine qs_y rfl rfl (yv_indexA T.arr82 rfl rfl (by omega)) ?_
      refine qs_nil ?_
      refine any_allY [3] (by kernel_rfl) rfl ?_
      refine ⟨⟨_, rfl, ?_⟩, trivial⟩
      ·skip
       refine ops_y hH38 rfl rfl (yv_loadE T.one2 rfl (by omega) (fun _ hw => Heap.bxw hw (n := 2) rfl)) ?_
       refine ops_nil ?_
       refine ⟨fun _ _ => (hH38.sub (List.Sublist.cons_cons _ (List.Sublist.cons_cons _ (sC sR)))), ?_⟩
       refine any_takesT [6, 7] (by kernel_rfl)  _ _ _ (by kernel_rfl) ?_
       refine qs_y rfl rfl (yv_sub rfl rfl (by rw [hns]; split <;> omega)) ?_
       refine qs_y rfl rfl (yv_indexA T.arr82 rfl rfl (by omega)) ?_
       refine qs_nil ?_
       refine any_allY [8] (by kernel_rfl) rfl ?_
       refine ⟨⟨_, rfl, ?_⟩, trivial⟩
       ·skip
        refine op_setA (n := 2) rfl rfl hH38 rfl T.sz2 (by omega) (fun w39 hH40 => ?_)
        refine ops_nil ?_
        refine ⟨(fun h => by cases h), ?_⟩
        refine any_doneY (by kernel_rfl) ?_
        refine blk_n (thn_n (region ?_))
        refine ops_y hH40 rfl rfl (yv_add rfl rfl (by omega)) ?_
        refine oM hH40 rfl rfl (ops_nil ?_)
        have hH41 := (hH40.sub (sC sR))
        refine lp_n (k + 1) (uC rfl (uC rfl (uC rfl (uC rfl (uC rfl (uC rfl (Sub.nil _))))))) ?_ ?_
        ·exact ⟨(Heap.recastBx (n := 1) hH41 rfl (by first | exact congrArg ints (B.bals_step (by omega) hek hdk) | exact congrArg ints (B.bals_skip (by omega) hdk))), by omega⟩
        ·first | (dsimp only; omega) | (show _ < _; omega)
   ·skip
    have hdk : ¬ (nth l (k : Int)).d ≤ day := ‹_›
    refine cond_f rfl (dF hc30) ?_
    refine skip (blk_n (thn_n (region ?_)))
    refine ops_y hH29 rfl rfl (yv_add rfl rfl (by omega)) ?_
    refine oM hH29 rfl rfl (ops_nil ?_)
    have hH42 := (hH29.sub (sC sR))
    refine lp_n (k + 1) (uC rfl (uC rfl (uC rfl (uC rfl (uC rfl (uC rfl (Sub.nil _))))))) ?_ ?_
    ·exact ⟨(Heap.recastBx (n := 1) hH42 rfl (by first | exact congrArg ints (B.bals_step (by omega) hek hdk) | exact congrArg ints (B.bals_skip (by omega) hdk))), by omega⟩
    ·first | (dsimp only; omega) | (show _ < _; omega)
  ·skip
   refine cond_f rfl (dF hc22) ?_
   refine exit (thn_x (lp_x (blk_here (thn_n (seq ?_)))))
   have hke : k = l.length := by omega
   have hbl := B.bals_len (l := l) (d := day) (k := k)
   refine region ?_
   refine ops_y hH21 rfl rfl (yv_loadC T.agg82 (by omega) rfl (fun _ hw => Heap.bxw hw (n := 1) rfl)) ?_
   refine op_putA (n := 2) rfl rfl hH21 rfl T.sz82 (by omega) (by first | rfl | (rw [ints_len]; omega)) (fun w43 hH44 => ?_)
   refine ops_nil (thn_n (ret ?_))
   have hH45 := (hH44.sub (sC (sC sR)))
   refine fin (hH45.front (n := 1) rfl) (fun w' hf => (res1 rfl (rvC rfl T.agg82 (by omega) (Heap.bxw hf (n := 1) rfl)))) (fun w' hf => ?_)
   rw [hke]
end Go.Fip
namespace Go.Fip
open Go.Proofs Go.RowKit
theorem c59 {v : Value} {l : List En} {w : World} (h0 : Rd encE 5 v l w) (hin : B.InR l) (hn : l.length ≤ 24) {a d : Int}  :
  Fn Tryz.prog 59 [(.agg #[v]), (.int .i64 a), (.int .i64 d)].toArray w (fun u _ => u = .int .i64 (B.bal l a d)) := by
 refine fn_of' (args := [(.agg #[v]), (.int .i64 a), (.int .i64 d)]) Tryz.func59 rfl (ent Tryz.func59 (by kernel_rfl) rfl) rfl rfl (fun hH => ?_)
 refine seq (region ?_)
 refine op_box (us := [v]) rfl rfl rfl hH (fun b1 w2 hH3 => ?_)
 refine oA hH3 rfl rfl (ops_nil (thn_n (seq (region (oA hH3 rfl rfl (ops_nil (thn_n (seq (seq ?_)))))))))
 refine region (oA hH3 rfl rfl (ops_nil (thn_n (block ?_))))
 refine loop (S := Nat) (fun k => [(8, (.int .i64 (k : Int))), (7, (.int .i64 (B.balTo l a d k))), (1, (.int .i64 a)), (2, (.int .i64 d)), (3, (.pointer (some ⟨b1, 0, none⟩))), (6, (.int .i64 0))]) (fun k w1 => Heap [bx b1 24 [v], base w] w1 ∧ k ≤ l.length) (fun k => l.length - k) (0) (uC rfl (uC rfl (uC rfl (uC rfl (uC rfl (uC rfl (Sub.nil _))))))) ?_ ?_
 ·exact ⟨hH3, by omega⟩
 ·rintro k w4 ⟨hH5, hk⟩
  show Holds _ _ _ _ _ [(8, (.int .i64 (k : Int))), (7, (.int .i64 (B.balTo l a d k))), (1, (.int .i64 a)), (2, (.int .i64 d)), (3, (.pointer (some ⟨b1, 0, none⟩))), (6, (.int .i64 0))] _ _
  refine seq (seq (region (oM hH5 rfl rfl ?_)))
  refine ops_y hH5 rfl rfl (yv_field T.f24_0 rfl) ?_
  refine ops_y hH5 rfl rfl (yv_load T.one22 rfl (fun _ hw => Heap.cellw hw (n := 0) rfl rfl)) ?_
  refine ops_y hH5 rfl rfl (yv_len T.sl22 rfl (h0.now hH5 (n := 1) rfl).is) ?_
  refine ops_y hH5 rfl rfl (yv_lss rfl rfl) ?_
  refine ops_nil (thn_n ?_)
  by_cases hc6 : (k : Int) < (l.length : Int)
  ·skip
   refine cond_t rfl (dT hc6) ?_
   refine skip (thn_n (seq (block (seq (region ?_)))))
   refine ops_y hH5 rfl rfl (yv_field T.f24_0 rfl) ?_
   refine ops_y hH5 rfl rfl (yv_load T.one22 rfl (fun _ hw => Heap.cellw hw (n := 0) rfl rfl)) ?_
   refine oM hH5 rfl rfl ?_
   refine ops_y hH5 rfl rfl (yv_index T.sl22 rfl rfl (h0.now hH5 (n := 1) rfl).is (by omega)) ?_
   refine ops_y hH5 rfl rfl (yv_loadA (cs := [(.int .i64 ((nth l (k : Int)).n)), (.int .i64 ((nth l (k : Int)).d)), (.int .i64 ((nth l (k : Int)).f)), (.int .i64 ((nth l (k : Int)).t)), (.int .i64 ((nth l (k : Int)).a))]) T.agg38 rfl rfl (fun _ hw => Rd.atA (h0.now hw (n := 1) rfl) (i := (k : Int)) (by omega))) ?_
   refine op_alloc (z := (.agg #[(.int .i64 0), (.int .i64 0), (.int .i64 0), (.int .i64 0), (.int .i64 0)])) (us := [(.int .i64 0), (.int .i64 0), (.int .i64 0), (.int .i64 0), (.int .i64 0)]) (fun _ => by kernel_rfl) rfl rfl hH5 (fun b7 w8 hH9 => ?_)
   refine op_store (n := 0) (j := 0) (us := [(.int .i64 ((nth l (k : Int)).n)), (.int .i64 ((nth l (k : Int)).d)), (.int .i64 ((nth l (k : Int)).f)), (.int .i64 ((nth l (k : Int)).t)), (.int .i64 ((nth l (k : Int)).a))]) rfl rfl hH9 rfl T.sz38 rfl rfl rfl (by rfl) (fun w10 hH11 => ?_)
   refine ops_nil (thn_n (seq (seq ?_)))
   have hek := hin k (by omega)
   unfold B.isEn at hek
   have hbt := B.balTo_bd (a := a) (d := d) hin k (by omega)
   refine region ?_
   refine ops_y hH11 rfl rfl (yv_field T.f38_1 rfl) ?_
   refine ops_y hH11 rfl rfl (yv_load T.one2 rfl (fun _ hw => Heap.cellw hw (n := 0) rfl rfl)) ?_
   refine oM hH11 rfl rfl ?_
   refine ops_y hH11 rfl rfl (yv_gtr rfl rfl) ?_
   refine ops_nil (thn_n ?_)
   by_cases hc12 : d < ((nth l (k : Int)).d)
   ·skip
    refine cond_t rfl (dT hc12) ?_
    refine exit (thn_x (blk_here (thn_n (region (oM hH11 rfl rfl ?_)))))
    refine ops_y hH11 rfl rfl (yv_add rfl rfl (by omega)) ?_
    refine oA hH11 rfl rfl (ops_nil ?_)
    have hH13 := (hH11.sub (sC sR))
    refine lp_n (k + 1) (uC rfl (Sub.cons (congrArg (fun z : Int => some (Value.int .i64 z)) (by first | exact B.balS (by omega) ‹_› | (rw [B.balT (by omega) (by omega)]; (repeat' split) <;> omega))) (uC rfl (uC rfl (uC rfl (uC rfl (Sub.nil _))))))) ?_ ?_
    ·exact ⟨hH13, by omega⟩
    ·first | (dsimp only; omega) | (show _ < _; omega)
   ·skip
    refine cond_f rfl (dF hc12) ?_
    refine skip (thn_n (seq (seq (region ?_))))
    refine ops_y hH11 rfl rfl (yv_field T.f38_3 rfl) ?_
    refine ops_y hH11 rfl rfl (yv_load T.one2 rfl (fun _ hw => Heap.cellw hw (n := 0) rfl rfl)) ?_
    refine oM hH11 rfl rfl ?_
    refine ops_y hH11 rfl rfl (yv_eql rfl rfl) ?_
    refine ops_nil (thn_n ?_)
    by_cases hc14 : ((nth l (k : Int)).t) = a
    ·skip
     refine cond_t rfl (dT hc14) ?_
     refine region (oM hH11 rfl rfl ?_)
     refine ops_y hH11 rfl rfl (yv_field T.f38_4 rfl) ?_
     refine ops_y hH11 rfl rfl (yv_load T.one2 rfl (fun _ hw => Heap.cellw hw (n := 0) rfl rfl)) ?_
     refine ops_y hH11 rfl rfl (yv_add rfl rfl (by omega)) ?_
     refine oA hH11 rfl rfl (ops_nil (thn_n (seq (region ?_))))
     refine ops_y hH11 rfl rfl (yv_field T.f38_2 rfl) ?_
     refine ops_y hH11 rfl rfl (yv_load T.one2 rfl (fun _ hw => Heap.cellw hw (n := 0) rfl rfl)) ?_
     refine oM hH11 rfl rfl ?_
     refine ops_y hH11 rfl rfl (yv_eql rfl rfl) ?_
     refine ops_nil (thn_n ?_)
     by_cases hc15 : ((nth l (k : Int)).f) = a
     ·skip
      refine cond_t rfl (dT hc15) ?_
      refine region (oM hH11 rfl rfl ?_)
      refine ops_y hH11 rfl rfl (yv_field T.f38_4 rfl) ?_
      refine ops_y hH11 rfl rfl (yv_load T.one2 rfl (fun _ hw => Heap.cellw hw (n := 0) rfl rfl)) ?_
      refine ops_y hH11 rfl rfl (yv_sub rfl rfl (by omega)) ?_
      refine oA hH11 rfl rfl (ops_nil (blk_n (thn_n (region (oM hH11 rfl rfl ?_)))))
      refine ops_y hH11 rfl rfl (yv_add rfl rfl (by omega)) ?_
      refine oA hH11 rfl rfl (ops_nil ?_)
      have hH16 := (hH11.sub (sC sR))
      refine lp_n (k + 1) (uC rfl (Sub.cons (congrArg (fun z : Int => some (Value.int .i64 z)) (by first | exact B.balS (by omega) ‹_› | (rw [B.balT (by omega) (by omega)]; (repeat' split) <;> omega))) (uC rfl (uC rfl (uC rfl (uC rfl (Sub.nil _))))))) ?_ ?_
      ·exact ⟨hH16, by omega⟩
      ·first | (dsimp only; omega) | (show _ < _; omega)
     ·skip
      refine cond_f rfl (dF hc15) ?_
      refine skip (blk_n (thn_n (region (oM hH11 rfl rfl ?_))))
      refine ops_y hH11 rfl rfl (yv_add rfl rfl (by omega)) ?_
      refine oA hH11 rfl rfl (ops_nil ?_)
      have hH17 := (hH11.sub (sC sR))
      refine lp_n (k + 1) (uC rfl (Sub.cons (congrArg (fun z : Int => some (Value.int .i64 z)) (by first | exact B.balS (by omega) ‹_› | (rw [B.balT (by omega) (by omega)]; (repeat' split) <;> omega))) (uC rfl (uC rfl (uC rfl (uC rfl (Sub.nil _))))))) ?_ ?_
      ·exact ⟨hH17, by omega⟩
      ·first | (dsimp only; omega) | (show _ < _; omega)
    ·skip
     refine cond_f rfl (dF hc14) ?_
     refine skip (thn_n (seq (region ?_)))
     refine ops_y hH11 rfl rfl (yv_field T.f38_2 rfl) ?_
     refine ops_y hH11 rfl rfl (yv_load T.one2 rfl (fun _ hw => Heap.cellw hw (n := 0) rfl rfl)) ?_
     refine oM hH11 rfl rfl ?_
     refine ops_y hH11 rfl rfl (yv_eql rfl rfl) ?_
     refine ops_nil (thn_n ?_)
     by_cases hc18 : ((nth l (k : Int)).f) = a
     ·skip
      refine cond_t rfl (dT hc18) ?_
      refine region (oM hH11 rfl rfl ?_)
      refine ops_y hH11 rfl rfl (yv_field T.f38_4 rfl) ?_
      refine ops_y hH11 rfl rfl (yv_load T.one2 rfl (fun _ hw => Heap.cellw hw (n := 0) rfl rfl)) ?_
      refine ops_y hH11 rfl rfl (yv_sub rfl rfl (by omega)) ?_
      refine oA hH11 rfl rfl (ops_nil (blk_n (thn_n (region (oM hH11 rfl rfl ?_)))))
      refine ops_y hH11 rfl rfl (yv_add rfl rfl (by omega)) ?_
      refine oA hH11 rfl rfl (ops_nil ?_)
      have hH19 := (hH11.sub (sC sR))
      refine lp_n (k + 1) (uC rfl (Sub.cons (congrArg (fun z : Int => some (Value.int .i64 z)) (by first | exact B.balS (by omega) ‹_› | (rw [B.balT (by omega) (by omega)]; (repeat' split) <;> omega))) (uC rfl (uC rfl (uC rfl (uC rfl (Sub.nil _))))))) ?_ ?_
      ·exact ⟨hH19, by omega⟩
      ·first | (dsimp only; omega) | (show _ < _; omega)
     ·skip
      refine cond_f rfl (dF hc18) ?_
      refine skip (blk_n (thn_n (region (oM hH11 rfl rfl ?_))))
      refine ops_y hH11 rfl rfl (yv_add rfl rfl (by omega)) ?_
      refine oA hH11 rfl rfl (ops_nil ?_)
      have hH20 := (hH11.sub (sC sR))
      refine lp_n (k + 1) (uC rfl (Sub.cons (congrArg (fun z : Int => some (Value.int .i64 z)) (by first | exact B.balS (by omega) ‹_› | (rw [B.balT (by omega) (by omega)]; (repeat' split) <;> omega))) (uC rfl (uC rfl (uC rfl (uC rfl (Sub.nil _))))))) ?_ ?_
      ·exact ⟨hH20, by omega⟩
      ·first | (dsimp only; omega) | (show _ < _; omega)
  ·skip
   refine cond_f rfl (dF hc6) ?_
   refine exit (thn_x (lp_x (blk_here (thn_n (seq (region (oM hH5 rfl rfl (oA hH5 rfl rfl (ops_nil ?_)))))))))
   refine thn_n (ret ?_)
   have hH21 := (hH5.sub (sC sR))
   refine fin hH21 (fun w' hf => (res1 rfl (show RV _ _ _ (.tmp 6) _ from rfl))) (fun w' hf => ?_)
   rw [B.balTo_all (by omega)]
theorem c20 {v : Value} {l : List En} {w : World} (h0 : Rd encE 5 v l w) (hn : l.length ≤ 1000000) {a d : Int}  :
  Fn Tryz.prog 20 [(.agg #[v]), (.int .i64 a), (.int .i64 d)].toArray w (fun u _ => u = .tuple #[.int .i64 (B.balR l a d).1, .int .i64 (B.balR l a d).2]) := by
 refine fn_of' (args := [(.agg #[v]), (.int .i64 a), (.int .i64 d)]) Tryz.func20 rfl (ent Tryz.func20 (by kernel_rfl) rfl) rfl rfl (fun hH => ?_)
 refine seq (region ?_)
 refine op_box (us := [v]) rfl rfl rfl hH (fun b1 w2 hH3 => ?_)
 refine oA hH3 rfl rfl (oA hH3 rfl rfl (ops_nil (thn_n (seq (seq ?_)))))
 by_cases hc4 : B.ck l = 0
 ·skip
  have hc0 : B.ck l = 0 := ‹_›
  have hbk := B.ck_iff.1 hc0
  have hin0 := hbk.2.1
  have hl24 := hbk.1
  refine region ?_
  refine ops_y hH3 rfl rfl (yv_loadA (cs := [v]) T.agg24 rfl rfl (fun _ hw => Heap.cellsw hw (n := 0) rfl (k := 0) rfl)) ?_
  refine op_fnV rfl rfl rfl hH3 (c22 (h0.now hH3 (n := 1) rfl) (by omega)) (fun w5 hH6 => ?_)
  refine ops_y hH6 rfl rfl (yv_neq rfl rfl) ?_
  refine ops_nil (thn_n ?_)
  have hc7 : ¬ (¬ ((B.ck l) = 0)) := fun h => h hc0
  refine cond_f rfl (not_decide_f hc7) ?_
  refine skip (thn_n (seq (seq (region (oM hH6 rfl rfl ?_)))))
  refine ops_y hH6 rfl rfl (yv_lss rfl rfl) ?_
  refine oM hH6 rfl rfl ?_
  by_cases hc8 : a < 0
  ·skip
   refine guard_no rfl rfl (dT hc8) rfl ?_
   refine guard_no rfl rfl (dT hc8) rfl ?_
   refine ops_y hH6 rfl rfl (yv_pick_t rfl (dT hc8) rfl) ?_
   refine ops_nil (thn_n ?_)
   refine cond_t rfl rfl ?_
   refine seq (region (oA hH6 rfl rfl (oA hH6 rfl rfl (ops_nil (thn_n (ret (thn_r ?_)))))))
   have hH9 := (hH6.sub (sC sR))
   refine fin hH9 (fun w' hf => (res2 rfl (show RV _ _ _ (.tmp 6) _ from rfl) (show RV _ _ _ (.tmp 7) _ from rfl))) (fun w' hf => ?_)
   first | exact tupI (B.bal1 hcn) | exact tupI (B.bal2 hc0 (by omega)) | exact tupI (B.bal3 hc0 (by omega))
  ·skip
   refine guard_yes rfl rfl (dF hc8) ?_
   refine oM hH6 rfl rfl ?_
   refine guard_yes rfl rfl (dF hc8) ?_
   refine ops_y hH6 rfl rfl (yv_gtr rfl rfl) ?_
   refine ops_y hH6 rfl rfl (yv_pick_f rfl (dF hc8) rfl) ?_
   refine ops_nil (thn_n ?_)
   by_cases hc10 : 9 < a
   ·skip
    refine cond_t rfl (dT hc10) ?_
    refine seq (region (oA hH6 rfl rfl (oA hH6 rfl rfl (ops_nil (thn_n (ret (thn_r ?_)))))))
    have hH11 := (hH6.sub (sC sR))
    refine fin hH11 (fun w' hf => (res2 rfl (show RV _ _ _ (.tmp 6) _ from rfl) (show RV _ _ _ (.tmp 7) _ from rfl))) (fun w' hf => ?_)
    first | exact tupI (B.bal1 hcn) | exact tupI (B.bal2 hc0 (by omega)) | exact tupI (B.bal3 hc0 (by omega))
   ·skip
    refine cond_f rfl (dF hc10) ?_
    refine skip (thn_n (seq (region ?_)))
    refine ops_y hH6 rfl rfl (yv_loadA (cs := [v]) T.agg24 rfl rfl (fun _ hw => Heap.cellsw hw (n := 0) rfl (k := 0) rfl)) ?_
    refine oM hH6 rfl rfl (oM hH6 rfl rfl ?_)
    refine op_fnV rfl rfl rfl hH6 (c59 (a := a) (d := d) (h0.now hH6 (n := 1) rfl) hin0 (by omega)) (fun w12 hH13 => ?_)
    refine oA hH13 rfl rfl (oA hH13 rfl rfl (ops_nil (thn_n (ret ?_))))
    have hH14 := (hH13.sub (sC sR))
    refine fin hH14 (fun w' hf => (res2 rfl (show RV _ _ _ (.tmp 6) _ from rfl) (show RV _ _ _ (.tmp 7) _ from rfl))) (fun w' hf => ?_)
    first | exact tupI (B.bal1 hcn) | exact tupI (B.bal2 hc0 (by omega)) | exact tupI (B.bal3 hc0 (by omega))
 ·skip
  have hcn : ¬ B.ck l = 0 := ‹_›
  refine region ?_
  refine ops_y hH3 rfl rfl (yv_loadA (cs := [v]) T.agg24 rfl rfl (fun _ hw => Heap.cellsw hw (n := 0) rfl (k := 0) rfl)) ?_
  refine op_fnV rfl rfl rfl hH3 (c22 (h0.now hH3 (n := 1) rfl) (by omega)) (fun w15 hH16 => ?_)
  refine ops_y hH16 rfl rfl (yv_neq rfl rfl) ?_
  refine ops_nil (thn_n ?_)
  have hc17 : ¬ ((B.ck l) = 0) := hcn
  refine cond_t rfl (not_decide_t hc17) ?_
  refine seq (region ?_)
  refine ops_y hH16 rfl rfl (yv_loadA (cs := [v]) T.agg24 rfl rfl (fun _ hw => Heap.cellsw hw (n := 0) rfl (k := 0) rfl)) ?_
  refine op_fnV rfl rfl rfl hH16 (c22 (h0.now hH16 (n := 1) rfl) (by omega)) (fun w18 hH19 => ?_)
  refine oA hH19 rfl rfl (oA hH19 rfl rfl (ops_nil (thn_n (ret (thn_r ?_)))))
  have hH20 := (hH19.sub (sC sR))
  refine fin hH20 (fun w' hf => (res2 rfl (show RV _ _ _ (.tmp 6) _ from rfl) (show RV _ _ _ (.tmp 7) _ from rfl))) (fun w' hf => ?_)
  first | exact tupI (B.bal1 hcn) | exact tupI (B.bal2 hc0 (by omega)) | exact tupI (B.bal3 hc0 (by omega))
theorem c19 {v : Value} {l : List En} {w : World} (h0 : Rd encE 5 v l w) (hn : l.length ≤ 1000000) (hG : Gl w) {a d : Int}  :
  Fn Tryz.prog 19 [(.agg #[v]), (.int .i64 a), (.int .i64 d)].toArray w (fun u _ => u = .tuple #[.int .i64 (B.balR l a d).1, .int .i64 (B.balR l a d).2]) := by
 refine fn_of' (args := [(.agg #[v]), (.int .i64 a), (.int .i64 d)]) Tryz.func19 rfl (ent Tryz.func19 (by kernel_rfl) rfl) rfl rfl (fun hH => ?_)
 refine seq (region ?_)
 refine op_box (us := [v]) rfl rfl rfl hH (fun b1 w2 hH3 => ?_)
 refine oA hH3 rfl rfl (oA hH3 rfl rfl (ops_nil (thn_n (seq ?_))))
 by_cases hc4 : B.ck l = 0
 ·skip
  have hc0 : B.ck l = 0 := ‹_›
  have hbk := B.ck_iff.1 hc0
  have hin0 := hbk.2.1
  have hl24 := hbk.1
  refine region ?_
  refine ops_y hH3 rfl rfl (yv_loadA (cs := [v]) T.agg24 rfl rfl (fun _ hw => Heap.cellsw hw (n := 0) rfl (k := 0) rfl)) ?_
  refine op_fn rfl rfl rfl hH3 (c56g (h0.now hH3 (n := 1) rfl) (by omega) (hG.now hH3 (n := 1) rfl) hc0) (fun u7 w5 lo8 hi9 hH6 hv10 => ?_)
  obtain ⟨dbD12, hu, hrowD12⟩ := hv10
  subst hu
  obtain ⟨mbD12, esD12, clD12, mD12, hentsD12, hwholeD12, hH11⟩ := Heap.fixMap hH6 (n := 0) rfl (fun w' h => by obtain ⟨rb', e, h⟩ := h; cases e; exact h)
  refine oM hH11 rfl rfl (ops_y hH11 rfl rfl (yv_extract rfl rfl) (ops_y hH11 rfl rfl (yv_extract rfl rfl) (oA hH11 rfl rfl (oA hH11 rfl rfl (ops_nil (thn_n (seq (block (seq ?_)))))))))
  refine region (oM hH11 rfl rfl ?_)
  refine ops_y hH11 rfl rfl (yv_neq rfl rfl) ?_
  refine oA hH11 rfl rfl (ops_nil (thn_n ?_))
  refine cond_f rfl rfl ?_
  refine seq (region (oM hH11 rfl rfl ?_))
  refine op_lit (us := [(0, (.int .i64 a))]) T.el131_encI [a] rfl (by decide) rfl (fun a ha => by simp [ha.ev (show ev _ (.tmp 21) = some _ from rfl)]) (fun w => by kernel_rfl) hH11 (fun u13 lo15 hi16 w14 hH17 => ?_)
  refine op_fnV rfl rfl rfl hH17 (c57_1 (Heap.rdw T.el131_encI hH17 (n := 0) rfl)) (fun w18 hH19 => ?_)
  refine ops_y hH19 rfl rfl (yv_not rfl) ?_
  refine oA hH19 rfl rfl (ops_nil (thn_n ?_))
  by_cases hc20 : 0 ≤ a ∧ a ≤ 9
  ·skip
   refine cond_f rfl (not_decide_n hc20) ?_
   refine skip (blk_n (thn_n (seq ?_)))
   have ha : 0 ≤ a ∧ a ≤ 9 := by omega
   have hbl := B.bals_len (l := l) (d := d) (k := l.length)
   refine region (oM hH19 rfl rfl (oM hH19 rfl rfl ?_))
   refine op_fnV rfl rfl rfl hH19 (c58 (day := d) ⟨((show RowAt 138 dbD12 v mbD12 esD12 clD12 _ from hH19.get (n := 1) rfl).1), (h0.now hH19 (n := 3) rfl)⟩ ((hentsD12.mp (show RowAt 138 dbD12 v mbD12 esD12 clD12 _ from hH19.get (n := 1) rfl).2)) hwholeD12 hin0 (by omega)) (fun w21 hH22 => ?_)
   refine op_alloc (z := (.agg #[(.int .i64 0), (.int .i64 0), (.int .i64 0), (.int .i64 0), (.int .i64 0), (.int .i64 0), (.int .i64 0), (.int .i64 0), (.int .i64 0), (.int .i64 0)])) (us := [(.int .i64 0), (.int .i64 0), (.int .i64 0), (.int .i64 0), (.int .i64 0), (.int .i64 0), (.int .i64 0), (.int .i64 0), (.int .i64 0), (.int .i64 0)]) (fun _ => by kernel_rfl) rfl rfl hH22 (fun b23 w24 hH25 => ?_)
   refine op_putA (n := 0) rfl rfl hH25 rfl T.sz82 (by omega) (by first | rfl | (rw [ints_len]; omega)) (fun w26 hH27 => ?_)
   refine ops_nil (thn_n (seq (seq (region ?_))))
   refine ops_y hH27 rfl rfl (yv_loadC T.agg82 (by omega) rfl (fun _ hw => Heap.bxw hw (n := 0) rfl)) ?_
   refine ops_y hH27 rfl rfl (yv_build (v := (.agg #[(.int .i64 0), (.int .i64 0), (.int .i64 0), (.int .i64 0), (.int .i64 0), (.int .i64 0), (.int .i64 0), (.int .i64 0), (.int .i64 0), (.int .i64 0)])) (us := []) (fun a ha => by simp []) (fun w => by kernel_rfl)) ?_
   refine ops_y hH27 rfl rfl (yv_eqA (a := (B.bals l d l.length)) (b := [0, 0, 0, 0, 0, 0, 0, 0, 0, 0]) T.eqi82 rfl rfl (by omega) rfl) ?_
   refine ops_nil (thn_n ?_)
   by_cases hc28 : (B.bals l d l.length) = [0, 0, 0, 0, 0, 0, 0, 0, 0, 0]
   ·skip
    have hz : B.bal l a d = 0 := B.bals_none (Nat.le_refl _) ha ‹_›
    refine cond_t rfl (dT hc28) ?_
    refine seq (region (oA hH27 rfl rfl (oA hH27 rfl rfl (ops_nil (thn_n (ret (thn_r ?_)))))))
    have hH29 := (hH27.sub (sC (sC (sC (sC sR)))))
    refine fin hH29 (fun w' hf => (res2 rfl (show RV _ _ _ (.tmp 6) _ from rfl) (show RV _ _ _ (.tmp 7) _ from rfl))) (fun w' hf => ?_)
    first | exact tupI (B.bal1 hcn) | exact tupI (B.bal2 hc0 (by omega)) | exact tupI ((B.bal3 hc0 ha).trans (by rw [hz])) | exact tupI ((B.bal3 hc0 ha).trans (by rw [hba]))
   ·skip
    refine cond_f rfl (dF hc28) ?_
    refine skip (thn_n (seq ?_))
    have hba := B.bals_all (l := l) (d := d) (a := a) (k := l.length) (Nat.le_refl _) ha
    refine region (oM hH27 rfl rfl ?_)
    refine ops_y hH27 rfl rfl (yv_indexA T.arr82 rfl rfl (by omega)) ?_
    refine ops_y hH27 rfl rfl (yv_loadE T.one2 rfl (by omega) (fun _ hw => Heap.bxw hw (n := 0) rfl)) ?_
    refine oA hH27 rfl rfl (oA hH27 rfl rfl (ops_nil (thn_n (ret ?_))))
    have hH30 := (hH27.sub (sC (sC (sC (sC sR)))))
    refine fin hH30 (fun w' hf => (res2 rfl (show RV _ _ _ (.tmp 6) _ from rfl) (show RV _ _ _ (.tmp 7) _ from rfl))) (fun w' hf => ?_)
    first | exact tupI (B.bal1 hcn) | exact tupI (B.bal2 hc0 (by omega)) | exact tupI ((B.bal3 hc0 ha).trans (by rw [hz])) | exact tupI ((B.bal3 hc0 ha).trans (by rw [hba]))
  ·skip
   refine cond_t rfl (not_decide_t hc20) ?_
   refine seq (region (oA hH19 rfl rfl (oA hH19 rfl rfl (ops_nil (thn_n (ret (blk_r (thn_r ?_))))))))
   have hH31 := (hH19.sub (sC (sC (sC sR))))
   refine fin hH31 (fun w' hf => (res2 rfl (show RV _ _ _ (.tmp 6) _ from rfl) (show RV _ _ _ (.tmp 7) _ from rfl))) (fun w' hf => ?_)
   first | exact tupI (B.bal1 hcn) | exact tupI (B.bal2 hc0 (by omega)) | exact tupI ((B.bal3 hc0 ha).trans (by rw [hz])) | exact tupI ((B.bal3 hc0 ha).trans (by rw [hba]))
 ·skip
  have hcn : ¬ B.ck l = 0 := ‹_›
  refine region ?_
  refine ops_y hH3 rfl rfl (yv_loadA (cs := [v]) T.agg24 rfl rfl (fun _ hw => Heap.cellsw hw (n := 0) rfl (k := 0) rfl)) ?_
  refine op_fnV rfl rfl rfl hH3 (c56b (h0.now hH3 (n := 1) rfl) (by omega) hcn) (fun w32 hH33 => ?_)
  refine oM hH33 rfl rfl (ops_y hH33 rfl rfl (yv_extract rfl rfl) (ops_y hH33 rfl rfl (yv_extract rfl rfl) (oA hH33 rfl rfl (oA hH33 rfl rfl (ops_nil (thn_n (seq (block (seq ?_)))))))))
  refine region (oM hH33 rfl rfl ?_)
  refine ops_y hH33 rfl rfl (yv_neq rfl rfl) ?_
  refine oA hH33 rfl rfl (ops_nil (thn_n ?_))
  have hc34 : ¬ ((B.ck l) = 0) := hcn
  refine cond_t rfl (not_decide_t hc34) ?_
  refine seq (region (oM hH33 rfl rfl (oA hH33 rfl rfl (oA hH33 rfl rfl (ops_nil (thn_n (ret (blk_r (thn_r ?_)))))))))
  have hH35 := (hH33.sub (sC sR))
  refine fin hH35 (fun w' hf => (res2 rfl (show RV _ _ _ (.tmp 6) _ from rfl) (show RV _ _ _ (.tmp 7) _ from rfl))) (fun w' hf => ?_)
  first | exact tupI (B.bal1 hcn) | exact tupI (B.bal2 hc0 (by omega)) | exact tupI ((B.bal3 hc0 ha).trans (by rw [hz])) | exact tupI ((B.bal3 hc0 ha).trans (by rw [hba]))
end Go.Fip
namespace Go.Fip
open Go.Proofs Go.RowKit
theorem toNatI {a b : UInt64} : ((a.toNat : Int) = (b.toNat : Int)) ↔ a = b := ⟨fun h => UInt64.toNat_inj.1 (by omega), fun h => by rw [h]⟩
theorem c29 {v u : Value} {p q : List UInt64} {w : World} (h0 : Rd encW 1 v p w) (h1 : Rd encW 1 u q w) (hn : p.length ≤ 1000000) (hn2 : q.length ≤ 1000000)  :
  Fn Tryz.prog 29 [v, u].toArray w (fun u _ => u = .bool (decide (p = q))) := by
 refine fn_of' (args := [v, u]) Tryz.func29 rfl (ent Tryz.func29 (by kernel_rfl) rfl) rfl rfl (fun hH => ?_)
 refine seq (region (oA hH rfl rfl (ops_nil (thn_n (seq (seq (region (oM hH rfl rfl ?_))))))))
 refine ops_y hH rfl rfl (yv_len T.sl39 rfl (h0.now hH (n := 0) rfl).is) ?_
 refine oM hH rfl rfl ?_
 refine ops_y hH rfl rfl (yv_len T.sl39 rfl (h1.now hH (n := 0) rfl).is) ?_
 refine ops_y hH rfl rfl (yv_neq rfl rfl) ?_
 refine ops_nil (thn_n ?_)
 by_cases hc1 : (p.length : Int) = (q.length : Int)
 ·skip
  refine cond_f rfl (not_decide_n hc1) ?_
  refine skip (thn_n (seq (seq (region (oA hH rfl rfl (ops_nil (thn_n (block ?_))))))))
  refine loop (S := Nat) (fun k => [(5, (.int .i64 (k : Int))), (0, v), (1, u)]) (fun k w1 => Heap [base w] w1 ∧ k ≤ p.length ∧ ∀ i, i < k → nth p (i : Int) = nth q (i : Int)) (fun k => p.length - k) (0) (uC rfl (uC rfl (uC rfl (Sub.nil _)))) ?_ ?_
  ·exact ⟨hH, by omega, B.all_zero⟩
  ·rintro k w2 ⟨hH3, hk, hall⟩
   show Holds _ _ _ _ _ [(5, (.int .i64 (k : Int))), (0, v), (1, u)] _ _
   refine seq (seq (region (oM hH3 rfl rfl (oM hH3 rfl rfl ?_))))
   refine ops_y hH3 rfl rfl (yv_len T.sl39 rfl (h0.now hH3 (n := 0) rfl).is) ?_
   refine ops_y hH3 rfl rfl (yv_lss rfl rfl) ?_
   refine ops_nil (thn_n ?_)
   by_cases hc4 : (k : Int) < (p.length : Int)
   ·skip
    refine cond_t rfl (dT hc4) ?_
    refine skip (thn_n (seq (block (seq ?_))))
    refine region_draw (fun w' => Heap [base w] w') T.mixed (fun w5 hr6 => ?_)
    have hH7 := hH3.redrawn hr6
    refine any_takes [0, 1, 2, 3, 4, 5, 6, 7, 8] (by kernel_rfl) hH7 _ _ _ (by kernel_rfl) ?_
    refine qM rfl rfl rfl (qM rfl rfl rfl ?_)
    refine qs_y rfl rfl (yv_index T.sl39 rfl rfl (h0.now hH7 (n := 0) rfl).is (by omega)) ?_
    refine qs_y rfl rfl (yv_load T.one32 rfl (fun _ hw => Rd.at (h0.now hw (n := 0) rfl) (i := (k : Int)) (by omega) (j := 0) rfl)) ?_
    refine qM rfl rfl rfl (qM rfl rfl rfl ?_)
    refine qs_y rfl rfl (yv_index T.sl39 rfl rfl (h1.now hH7 (n := 0) rfl).is (by omega)) ?_
    refine qs_y rfl rfl (yv_load T.one32 rfl (fun _ hw => Rd.at (h1.now hw (n := 0) rfl) (i := (k : Int)) (by omega) (j := 0) rfl)) ?_
    refine qs_y rfl rfl (yv_neq rfl rfl) ?_
    refine qs_nil ?_
    refine any_done (by kernel_rfl) ?_
    refine thn_n ?_
    by_cases hc8 : ((nth p (k : Int)).toNat : Int) = ((nth q (k : Int)).toNat : Int)
    ·skip
     refine cond_f rfl (not_decide_n hc8) ?_
     refine skip (blk_n (thn_n (region (oM hH7 rfl rfl ?_))))
     refine ops_y hH7 rfl rfl (yv_add rfl rfl (by omega)) ?_
     refine oA hH7 rfl rfl (ops_nil ?_)
     refine lp_n (k + 1) (uC rfl (uC rfl (uC rfl (Sub.nil _)))) ?_ ?_
     ·exact ⟨hH7, by omega, B.all_snoc hall (toNatI.1 (by omega))⟩
     ·first | (dsimp only; omega) | (show _ < _; omega)
    ·skip
     have hne3 : ¬ nth p (k : Int) = nth q (k : Int) := fun c => absurd (toNatI.2 c) (by omega)
     refine cond_t rfl (not_decide_t hc8) ?_
     refine seq (region (oA hH7 rfl rfl (ops_nil (thn_n (ret (blk_r (thn_r (lp_r (blk_r ?_)))))))))
     refine thn_r ?_
     refine fin hH7 (fun w' hf => (res1 rfl (show RV _ _ _ (.tmp 4) _ from rfl))) (fun w' hf => ?_)
     first | exact congrArg Value.bool (dF (fun e => by subst e; first | omega | (apply hne3; rfl))).symm | exact congrArg Value.bool (dT (B.ext_nth (by omega) (fun i hi => hall i (by omega)))).symm
   ·skip
    refine cond_f rfl (dF hc4) ?_
    refine exit (thn_x (lp_x (blk_here (thn_n (seq (region (oA hH3 rfl rfl (ops_nil (thn_n ?_)))))))))
    refine ret ?_
    refine fin hH3 (fun w' hf => (res1 rfl (show RV _ _ _ (.tmp 4) _ from rfl))) (fun w' hf => ?_)
    first | exact congrArg Value.bool (dF (fun e => by subst e; first | omega | (apply hne3; rfl))).symm | exact congrArg Value.bool (dT (B.ext_nth (by omega) (fun i hi => hall i (by omega)))).symm
 ·skip
  refine cond_t rfl (not_decide_t hc1) ?_
  refine seq (region (oA hH rfl rfl (ops_nil (thn_n (ret (thn_r ?_))))))
  refine fin hH (fun w' hf => (res1 rfl (show RV _ _ _ (.tmp 4) _ from rfl))) (fun w' hf => ?_)
  first | exact congrArg Value.bool (dF (fun e => by subst e; first | omega | (apply hne3; rfl))).symm | exact congrArg Value.bool (dT (B.ext_nth (by omega) (fun i hi => hall i (by omega)))).symm
theorem it111 {c1 c2 lo hi n i : Nat} (hne : c1 ≠ c2) (hc1 : lo ≤ c1 ∧ c1 < hi) (hc2 : lo ≤ c2 ∧ c2 < hi) (hn : n ≤ 64) (hi2 : i ≤ 1000000) :
  IterO Tryz.prog 111 [(.pointer (some ⟨c1, 0, none⟩)), (.pointer (some ⟨c2, 0, none⟩))] lo hi (Two 3 3 c1 c2 (.int .i64 (n : Int)) (.int .i64 (i : Int))) ((B.hv i n).map Value.bool) := by
 refine iterO_of (N := 25) Tryz.func111 rfl (ent Tryz.func111 (by kernel_rfl) rfl) rfl rfl rfl (fun yl J Jx hJ hJx hY w hJw hA => ?_)
 have hsz : hi ≤ w.heap.size := (hA.okAt (n := 0) rfl).2.1
 have hH := two_open hne hc1 hc2 hA
 refine block ?_
 refine loop (S := Nat × Nat × Nat × World) (fun (q, m, j, wj) => [(0, (.func (.yield yl) #[] #[])), (1, (.pointer (some ⟨c1, 0, none⟩))), (2, (.pointer (some ⟨c2, 0, none⟩)))]) (fun (q, m, j, wj) w1 => Heap [bx c1 3 [(.int .i64 (m : Int))], bx c2 3 [(.int .i64 (j : Int))], restI wj lo, restJ wj hi] w1 ∧ j ≤ i ∧ m ≤ 64 ∧ (B.hv i n).drop q = B.hv j m ∧ q ≤ (B.hv i n).length ∧ hi ≤ wj.heap.size ∧ J q wj) (fun (q, m, j, wj) => m) (0, n, i, w) (uC rfl (uC rfl (uC rfl (Sub.nil _)))) ?_ ?_
 ·exact ⟨(Heap.recastBx (n := 1) (Heap.recastBx (n := 0) hH rfl (rfl)) rfl (rfl)), Nat.le_refl _, hn, rfl, Nat.zero_le _, hsz, hJw⟩
 ·rintro ⟨q, m, j, wj⟩ w1 ⟨hH2, hji, hm, hd, hq, hsz, hJw⟩
  show Holds _ _ _ _ _ [(0, (.func (.yield yl) #[] #[])), (1, (.pointer (some ⟨c1, 0, none⟩))), (2, (.pointer (some ⟨c2, 0, none⟩)))] _ _
  refine seq (seq (region ?_))
  refine ops_y hH2 rfl rfl (yv_load T.one3 rfl (fun _ hw => Heap.cellw hw (n := 0) rfl rfl)) ?_
  refine ops_y hH2 rfl rfl (yv_gtr rfl rfl) ?_
  refine ops_nil (thn_n ?_)
  by_cases hc3 : 1 < (m : Int)
  ·skip
   have hm2 : 2 ≤ m := by omega
   have hbh := B.half_lt hm2
   have hq1 : q + 1 ≤ (B.hv i n).length := by have h := B.hv_at hd hm2; have := (List.getElem?_eq_some_iff.1 h).1; rw [List.length_map] at this; omega
   refine cond_t rfl (dT hc3) ?_
   refine skip (thn_n (block (seq (region ?_))))
   refine ops_y hH2 rfl rfl (yv_load T.one3 rfl (fun _ hw => Heap.cellw hw (n := 0) rfl rfl)) ?_
   refine op_fnV rfl rfl rfl hH2 (c107 (by omega)) (fun w4 hH5 => ?_)
   refine oA hH5 rfl rfl (ops_nil (thn_n (seq (seq (region (oM hH5 rfl rfl ?_))))))
   refine ops_y hH5 rfl rfl (yv_load T.one3 rfl (fun _ hw => Heap.cellw hw (n := 1) rfl rfl)) ?_
   refine oM hH5 rfl rfl ?_
   refine ops_y hH5 rfl rfl (yv_lss rfl rfl) ?_
   have hsz11 : hi ≤ w4.heap.size := Nat.le_trans hsz (off_of (hH5.get (n := 2) rfl) (hH5.get (n := 3) rfl)).size
   refine op_yield rfl rfl rfl (hY q _ (B.hv_at hd hm2) _ (hJ _ _ _ hJw (off_of (hH5.get (n := 2) rfl) (hH5.get (n := 3) rfl))) hsz11) (fun w6 hA7 => ?_) (fun w6 hA7 => ?_)
   ·skip
    have hJw10 := hA7.1
    have hH8 := two_round hne hc1 hc2 hsz11 hH5 hA7.2
    have hsz9 : hi ≤ w6.heap.size := Nat.le_trans hsz11 hA7.2.size
    refine ops_y hH8 rfl rfl (yv_not rfl) ?_
    refine ops_nil (thn_n ?_)
    refine cond_f rfl rfl ?_
    refine skip (thn_n (seq (seq (region ?_))))
    refine ops_y hH8 rfl rfl (yv_load T.one3 rfl (fun _ hw => Heap.cellw hw (n := 1) rfl rfl)) ?_
    refine oM hH8 rfl rfl ?_
    refine ops_y hH8 rfl rfl (yv_lss rfl rfl) ?_
    refine ops_nil (thn_n ?_)
    by_cases hc12 : (j : Int) < (B.half m : Int)
    ·skip
     have left : j < B.half m := by omega
     refine cond_t rfl (dT hc12) ?_
     refine seq (region (oM hH8 rfl rfl ?_))
     refine op_store (n := 0) (j := 0) (us := [(.int .i64 (B.half m : Int))]) rfl rfl hH8 rfl T.sz3 rfl rfl rfl (by rfl) (fun w13 hH14 => ?_)
     refine ops_nil (thn_n (exit (thn_x (blk_here ?_))))
     refine lp_n (q + 1, (B.half m), j, w6) (uC rfl (uC rfl (uC rfl (Sub.nil _)))) ?_ ?_
     ·exact ⟨(Heap.recastBx (n := 1) (Heap.recastBx (n := 0) hH14 rfl (by first | rfl | exact congrArg (fun z : Int => [Value.int .i64 z]) (by omega))) rfl (by first | rfl | exact congrArg (fun z : Int => [Value.int .i64 z]) (by omega))), hji, by omega, B.hv_left hd hm2 (by omega), hq1, hsz9, hJw10⟩
     ·first | (dsimp only; omega) | (show _ < _; omega)
    ·skip
     refine cond_f rfl (dF hc12) ?_
     refine skip (thn_n ?_)
     refine region_drawY (fun w' => Heap [restI w6 lo, restJ w6 hi] w') [6, 7] T.mixed (fun w15 hr16 => ?_)
     have hH17 := hH8.redrawn hr16
     refine any_takesT [1, 4] (by kernel_rfl)  _ _ _ (by kernel_rfl) ?_
     refine qM rfl rfl rfl (qM rfl rfl rfl (qs_nil ?_))
     refine any_allY [0, 3] (by kernel_rfl) rfl ?_
     refine ⟨⟨_, rfl, ?_⟩, ⟨_, rfl, ?_⟩, trivial⟩
     ·skip
      refine ops_y hH17 rfl rfl (yv_load T.one3 rfl (fun _ hw => Heap.cellw hw (n := 1) rfl rfl)) ?_
      refine ops_nil ?_
      refine ⟨fun _ _ => (hH17.sub (sC (sC sR))), ?_⟩
      refine any_takesT [2] (by kernel_rfl)  _ _ _ (by kernel_rfl) ?_
      refine qs_y rfl rfl (yv_sub rfl rfl (by omega)) ?_
      refine qs_nil ?_
      refine any_allY [3, 6] (by kernel_rfl) rfl ?_
      refine ⟨⟨_, rfl, ?_⟩, ⟨_, rfl, ?_⟩, trivial⟩
      ·skip
       refine ops_y hH17 rfl rfl (yv_load T.one3 rfl (fun _ hw => Heap.cellw hw (n := 0) rfl rfl)) ?_
       refine ops_nil ?_
       refine ⟨fun _ _ => (hH17.sub (sC (sC sR))), ?_⟩
       refine any_takesT [5] (by kernel_rfl)  _ _ _ (by kernel_rfl) ?_
       refine qs_y rfl rfl (yv_sub rfl rfl (by omega)) ?_
       refine qs_nil ?_
       refine any_allY [6] (by kernel_rfl) rfl ?_
       refine ⟨⟨_, rfl, ?_⟩, trivial⟩
       ·skip
        refine op_store (n := 1) (j := 0) (us := [(.int .i64 ((j : Int) - (B.half m : Int)))]) rfl rfl hH17 rfl T.sz3 rfl rfl rfl (by rfl) (fun w18 hH19 => ?_)
        refine ops_nil ?_
        refine ⟨(fun h => by cases h), ?_⟩
        refine any_allY [7] (by kernel_rfl) rfl ?_
        refine ⟨⟨_, rfl, ?_⟩, trivial⟩
        ·skip
         refine op_store (n := 0) (j := 0) (us := [(.int .i64 ((m : Int) - (B.half m : Int)))]) rfl rfl hH19 rfl T.sz3 rfl rfl rfl (by rfl) (fun w20 hH21 => ?_)
         refine ops_nil ?_
         refine ⟨(fun h => by cases h), ?_⟩
         refine any_doneY (by kernel_rfl) ?_
         refine blk_n ?_
         refine lp_n (q + 1, (m - B.half m), (j - B.half m), w6) (uC rfl (uC rfl (uC rfl (Sub.nil _)))) ?_ ?_
         ·exact ⟨(Heap.recastBx (n := 1) (Heap.recastBx (n := 0) hH21 rfl (by first | rfl | exact congrArg (fun z : Int => [Value.int .i64 z]) (by omega))) rfl (by first | rfl | exact congrArg (fun z : Int => [Value.int .i64 z]) (by omega))), by omega, by omega, B.hv_right hd hm2 (by omega), hq1, hsz9, hJw10⟩
         ·first | (dsimp only; omega) | (show _ < _; omega)
      ·skip
       refine op_store (n := 1) (j := 0) (us := [(.int .i64 ((j : Int) - (B.half m : Int)))]) rfl rfl hH17 rfl T.sz3 rfl rfl rfl (by rfl) (fun w22 hH23 => ?_)
       refine ops_nil ?_
       refine ⟨(fun h => by cases h), ?_⟩
       refine any_allY [3] (by kernel_rfl) rfl ?_
       refine ⟨⟨_, rfl, ?_⟩, trivial⟩
       ·skip
        refine ops_y hH23 rfl rfl (yv_load T.one3 rfl (fun _ hw => Heap.cellw hw (n := 0) rfl rfl)) ?_
        refine ops_nil ?_
        refine ⟨(fun _ h => h), ?_⟩
        refine any_takesT [5] (by kernel_rfl)  _ _ _ (by kernel_rfl) ?_
        refine qs_y rfl rfl (yv_sub rfl rfl (by omega)) ?_
        refine qs_nil ?_
        refine any_allY [7] (by kernel_rfl) rfl ?_
        refine ⟨⟨_, rfl, ?_⟩, trivial⟩
        ·skip
         refine op_store (n := 0) (j := 0) (us := [(.int .i64 ((m : Int) - (B.half m : Int)))]) rfl rfl hH23 rfl T.sz3 rfl rfl rfl (by rfl) (fun w24 hH25 => ?_)
         refine ops_nil ?_
         refine ⟨(fun h => by cases h), ?_⟩
         refine any_doneY (by kernel_rfl) ?_
         refine blk_n ?_
         refine lp_n (q + 1, (m - B.half m), (j - B.half m), w6) (uC rfl (uC rfl (uC rfl (Sub.nil _)))) ?_ ?_
         ·exact ⟨(Heap.recastBx (n := 1) (Heap.recastBx (n := 0) hH25 rfl (by first | rfl | exact congrArg (fun z : Int => [Value.int .i64 z]) (by omega))) rfl (by first | rfl | exact congrArg (fun z : Int => [Value.int .i64 z]) (by omega))), by omega, by omega, B.hv_right hd hm2 (by omega), hq1, hsz9, hJw10⟩
         ·first | (dsimp only; omega) | (show _ < _; omega)
     ·skip
      refine ops_y hH17 rfl rfl (yv_load T.one3 rfl (fun _ hw => Heap.cellw hw (n := 0) rfl rfl)) ?_
      refine ops_nil ?_
      refine ⟨fun _ _ => (hH17.sub (sC (sC sR))), ?_⟩
      refine any_takesT [5] (by kernel_rfl)  _ _ _ (by kernel_rfl) ?_
      refine qs_y rfl rfl (yv_sub rfl rfl (by omega)) ?_
      refine qs_nil ?_
      refine any_allY [0] (by kernel_rfl) rfl ?_
      refine ⟨⟨_, rfl, ?_⟩, trivial⟩
      ·skip
       refine ops_y hH17 rfl rfl (yv_load T.one3 rfl (fun _ hw => Heap.cellw hw (n := 1) rfl rfl)) ?_
       refine ops_nil ?_
       refine ⟨fun _ _ => (hH17.sub (sC (sC sR))), ?_⟩
       refine any_takesT [2] (by kernel_rfl)  _ _ _ (by kernel_rfl) ?_
       refine qs_y rfl rfl (yv_sub rfl rfl (by omega)) ?_
       refine qs_nil ?_
       refine any_allY [6] (by kernel_rfl) rfl ?_
       refine ⟨⟨_, rfl, ?_⟩, trivial⟩
       ·skip
        refine op_store (n := 1) (j := 0) (us := [(.int .i64 ((j : Int) - (B.half m : Int)))]) rfl rfl hH17 rfl T.sz3 rfl rfl rfl (by rfl) (fun w26 hH27 => ?_)
        refine ops_nil ?_
        refine ⟨(fun h => by cases h), ?_⟩
        refine any_allY [7] (by kernel_rfl) rfl ?_
        refine ⟨⟨_, rfl, ?_⟩, trivial⟩
        ·skip
         refine op_store (n := 0) (j := 0) (us := [(.int .i64 ((m : Int) - (B.half m : Int)))]) rfl rfl hH27 rfl T.sz3 rfl rfl rfl (by rfl) (fun w28 hH29 => ?_)
         refine ops_nil ?_
         refine ⟨(fun h => by cases h), ?_⟩
         refine any_doneY (by kernel_rfl) ?_
         refine blk_n ?_
         refine lp_n (q + 1, (m - B.half m), (j - B.half m), w6) (uC rfl (uC rfl (uC rfl (Sub.nil _)))) ?_ ?_
         ·exact ⟨(Heap.recastBx (n := 1) (Heap.recastBx (n := 0) hH29 rfl (by first | rfl | exact congrArg (fun z : Int => [Value.int .i64 z]) (by omega))) rfl (by first | rfl | exact congrArg (fun z : Int => [Value.int .i64 z]) (by omega))), by omega, by omega, B.hv_right hd hm2 (by omega), hq1, hsz9, hJw10⟩
         ·first | (dsimp only; omega) | (show _ < _; omega)
   ·skip
    have hJxw := hA7
    refine ops_y (Heap.nil w6) rfl rfl (yv_not rfl) ?_
    refine ops_nil (thn_n ?_)
    refine cond_t rfl rfl ?_
    refine ret (thn_r (blk_r (lp_r (blk_r ?_))))
    exact ⟨rfl, .inr hJxw⟩
  ·skip
   refine cond_f rfl (dF hc3) ?_
   refine exit (thn_x (lp_x (blk_here ?_)))
   have hqe : q = ((B.hv i n).map Value.bool).length := by rw [List.length_map]; have := B.hv_end hd (by omega); omega
   exact ⟨rfl, .inl (hqe ▸ hJ _ _ _ hJw (off_of (hH2.get (n := 2) rfl) (hH2.get (n := 3) rfl)))⟩
theorem c75 {i n : Int} {w : World}  :
  Fn Tryz.prog 75 [(.int .i64 i), (.int .i64 n)].toArray w (fun u w => ∃ c1 c2 : Nat, u = .func (.func 111) #[] #[.pointer (some ⟨c1, 0, none⟩), .pointer (some ⟨c2, 0, none⟩)] ∧ c1 ≠ c2 ∧ Two 3 3 c1 c2 (.int .i64 n) (.int .i64 i) w) := by
 refine fn_of' (args := [(.int .i64 i), (.int .i64 n)]) Tryz.func75 rfl (ent Tryz.func75 (by kernel_rfl) rfl) rfl rfl (fun hH => ?_)
 refine seq (region ?_)
 refine op_box (us := [(.int .i64 i)]) rfl rfl rfl hH (fun b1 w2 hH3 => ?_)
 refine op_box (us := [(.int .i64 n)]) rfl rfl rfl hH3 (fun b4 w5 hH6 => ?_)
 refine oA hH6 rfl rfl (ops_nil (thn_n (seq (region ?_))))
 refine ops_y hH6 rfl rfl (yv_func rfl rfl) ?_
 refine oA hH6 rfl rfl (ops_nil (thn_n (ret ?_)))
 refine fin (hH6.front (n := 2) rfl) (fun w' hf => (res1 rfl (show RV _ _ _ (.tmp 4) _ from rfl))) (fun w' hf => ?_)
 refine ⟨_, _, rfl, two_ne hf (n := 0) (m := 1) rfl rfl (by decide), Heap.bxw hf (n := 0) rfl, Heap.bxw hf (n := 1) rfl⟩
theorem Heap.fixTwo {H : List Item} {w : World} {n lo hi c1 c2 t1 t2 : Nat} {x y : Value} {φ : World → Prop} (hH : Heap H w) (hn : H[n]? = some ⟨lo, hi, φ⟩) (h : ∀ w, φ w → Two t1 t2 c1 c2 x y w) : Heap (H.set n ⟨lo, hi, Two t1 t2 c1 c2 x y⟩) w ∧ ((lo ≤ c1 ∧ c1 < hi) ∧ (lo ≤ c2 ∧ c2 < hi)) := by
 have hok := hH.okAt hn
 have hk : (⟨lo, hi, Two t1 t2 c1 c2 x y⟩ : Item).ok w := ⟨hok.1, hok.2.1, fun w' ha => h w' (hok.2.2 w' ha)⟩
 exact ⟨hH.swapItem hn hk, two_within hk⟩
theorem mapB_get {l : List Bool} {i : Nat} {x : Value} (h : (l.map Value.bool)[i]? = some x) : i < l.length ∧ x = .bool (nth l (i : Int)) := by
 rw [List.getElem?_map] at h
 cases hl : l[i]? with
 | none => rw [hl] at h; cases h
 | some b =>
  obtain ⟨hlt, hb⟩ := List.getElem?_eq_some_iff.1 hl
  rw [hl] at h
  exact ⟨hlt, by rw [nth_nat hlt, hb]; exact (Option.some.inj h).symm⟩
theorem take_snocB {l : List Bool} {i : Nat} (h : i < l.length) : l.take i ++ [nth l (i : Int)] = l.take (i + 1) := by
 rw [List.take_succ_eq_append_getElem h, nth_nat h]
theorem c110 {gf : FuncId} {cap : List Value} {lo hi : Nat} {A : World → Prop} {l : List Bool} {w : World} (hit : IterO Tryz.prog gf cap lo hi A (l.map Value.bool)) (hA : (⟨lo, hi, A⟩ : Item).ok w) (hn : l.length ≤ 1000) :
  FnO Tryz.prog 110 [(.slice none 0 0), (.func (.func gf) #[] cap.toArray)].toArray w lo hi (fun u w => Own 4 1 encBo u l w) := by
 refine fnO_of (args := [(.slice none 0 0), (.func (.func gf) #[] cap.toArray)]) Tryz.func110 rfl (ent Tryz.func110 (by kernel_rfl) rfl) rfl rfl hA (fun hH => ?_)
 refine seq (region ?_)
 refine op_box (us := [(.slice none 0 0)]) rfl rfl rfl hH (fun b1 w2 hH3 => ?_)
 refine oA hH3 rfl rfl (ops_nil (thn_n (seq (seq (region (oM hH3 rfl rfl (ops_nil (thn_n (block ?_)))))))))
 have hH4 := ow_nil (enc := encBo) 4 1 hH3
 have hH5 := hH4.front (n := 2) rfl
 refine rangeFuncO (xs := (l.map Value.bool)) rfl hit rfl hH5 (fun i H => ∃ v_a : Value, ∃ lo_a : Nat, ∃ hi_a : Nat, H = [ow lo_a hi_a 4 1 encBo v_a (l.take i), bx b1 95 [v_a], restI w lo, restJ w hi] ∧ True) (fun c H => False) ⟨(.slice none 0 0), w2.heap.size, w2.heap.size, rfl, trivial⟩ (fun l6 D7 i8 x9 H w11 w15 rc hx10 hI hH12 => ?_) (fun D7 H w11 hI hH12 => ?_) (fun D7 c H w11 hI hH12 => ?_)
 ·skip
  obtain ⟨v_a, lo_a, hi_a, rfl, _⟩ := hI
  obtain ⟨hlt, hxe⟩ := mapB_get hx10
  subst hxe
  refine region (oA hH12 rfl rfl (ops_nil ?_))
  refine ⟨_, hH12, fun w16 hH17 => ?_⟩
  refine block (region ?_)
  refine ops_y hH17 rfl rfl (yv_load T.one95 rfl (fun _ hw => Heap.cellw hw (n := 4) rfl rfl)) ?_
  refine oM hH17 rfl rfl ?_
  refine op_lit (us := [(0, (.bool (nth l (i8 : Int))))]) T.el95_encBo [(nth l (i8 : Int))] rfl (by decide) rfl (fun a ha => by simp [ha.ev (show ev _ (.tmp 9) = some _ from rfl)]) (fun w => by kernel_rfl) hH17 (fun u18 lo20 hi21 w19 hH22 => ?_)
  refine op_append (n := 4) T.el95_encBo rfl rfl rfl hH22 rfl (Heap.rdw T.el95_encBo hH22 (n := 0) rfl) (by rw [List.length_take]; simp only [List.length_cons, List.length_nil]; omega) (fun u23 lo25 hi26 w24 hH27 => ?_)
  refine op_store (n := 5) (j := 0) (us := [u23]) rfl rfl hH27 rfl T.sz95 (SliceIs.cells (Heap.rdw T.el95_encBo hH27 (n := 4) rfl).is) rfl rfl (SliceIs.one (Heap.rdw T.el95_encBo hH27 (n := 4) rfl).is) (fun w28 hH29 => ?_)
  refine ops_nil (blk_n ?_)
  have hH30 := (hH29.sub (sC sR))
  exact ⟨_, ⟨_, ⟨u23, lo25, hi26, rfl, trivial⟩, rfl⟩, (Heap.recast (n := 3) hH30 rfl ((take_snocB hlt)))⟩
 ·skip
  obtain ⟨v_a, lo_a, hi_a, rfl, _⟩ := hI
  have hH31 := hH12.perm (List.perm_append_comm (l₁ := [_]))
  refine blk_n (thn_n (seq (region ?_)))
  refine ops_y hH31 rfl rfl (yv_load T.one95 rfl (fun _ hw => Heap.cellw hw (n := 2) rfl rfl)) ?_
  refine oA hH31 rfl rfl (ops_nil (thn_n (ret ?_)))
  have hH32 := hH31.front (n := 5) rfl
  have hH33 := hH32.front (n := 2) rfl
  have hH34 := hH33.front (n := 5) rfl
  have hH35 := hH34.front (n := 3) rfl
  have hH36 := hH35.front (n := 5) rfl
  have hH37 := (hH36.sub (List.Sublist.cons_cons _ (List.Sublist.cons_cons _ (List.Sublist.cons_cons _ (List.Sublist.cons_cons _ (List.Sublist.cons_cons _ (List.nil_sublist _)))))))
  refine finO (H := [ow lo_a hi_a 4 1 encBo v_a (l.take ((l.map Value.bool)).length)]) [D7] hH37 (fun w' hf => (res1 rfl (show RV _ _ _ (.tmp 4) _ from rfl))) (fun w' hf => ?_)
  exact (by have h := Heap.own hf (n := 0) rfl; rw [List.length_map, List.take_length] at h; exact h)
 ·skip
  exact hI.elim
theorem c74 {gf : FuncId} {cap : List Value} {lo hi : Nat} {A : World → Prop} {l : List Bool} {w : World} (hit : IterO Tryz.prog gf cap lo hi A (l.map Value.bool)) (hA : (⟨lo, hi, A⟩ : Item).ok w) (hn : l.length ≤ 1000) :
  FnO Tryz.prog 74 [(.func (.func gf) #[] cap.toArray)].toArray w lo hi (fun u w => Own 4 1 encBo u l w) := by
 refine fnO_of (args := [(.func (.func gf) #[] cap.toArray)]) Tryz.func74 rfl (ent Tryz.func74 (by kernel_rfl) rfl) rfl rfl hA (fun hH => ?_)
 refine seq (region (oA hH rfl rfl (ops_nil (thn_n (seq (region (oM hH rfl rfl ?_)))))))
 refine op_fnO (n := 0) rfl rfl rfl hH rfl (c110 hit (hH.okAt (n := 0) rfl) hn) (fun u3 w1 lo4 hi5 hH2 hv6 => ?_)
 have hH7 := Heap.toOw hH2 (n := 0) rfl
 refine oA hH7 rfl rfl (ops_nil (thn_n (ret ?_)))
 have hH8 := hH7.front (n := 3) rfl
 have hH9 := hH8.front (n := 2) rfl
 have hH10 := hH9.front (n := 3) rfl
 refine finO (H := [ow lo4 hi5 4 1 encBo u3 l]) [] hH10 (fun w' hf => (res1 rfl (show RV _ _ _ (.tmp 2) _ from rfl))) (fun w' hf => ?_)
 exact Heap.own hf (n := 0) rfl
end Go.Fip
namespace Go.Fip
open Go.Proofs Go.RowKit
theorem c72r {v : Value} {l : List En} {i : Nat} {w : World} (h0 : Rd encE 5 v l w) (hn : l.length ≤ 64) (hin : B.InR l) (hi : i < l.length) (ih : ∀ {v1 : Value} {l1 : List En} {i1 : Nat} {w1 : World}, Rd encE 5 v1 l1 w1 → l1.length < l.length → l1.length ≤ 64 → B.InR l1 → i1 < l1.length → Fn Tryz.prog 72 #[v1, .int .i64 (i1 : Int)] w1 (fun u w => Own 32 1 encW u (B.path l1 i1) w))  :
  Fn Tryz.prog 72 [v, (.int .i64 (i : Int))].toArray w (fun u w => Own 32 1 encW u (B.path l i) w) := by
 refine fn_of' (args := [v, (.int .i64 (i : Int))]) Tryz.func72 rfl (ent Tryz.func72 (by kernel_rfl) rfl) rfl rfl (fun hH => ?_)
 refine seq (region (oA hH rfl rfl (ops_nil (thn_n (seq (seq (region (oM hH rfl rfl ?_))))))))
 refine ops_y hH rfl rfl (yv_len T.sl22 rfl (h0.now hH (n := 0) rfl).is) ?_
 refine ops_y hH rfl rfl (yv_eql rfl rfl) ?_
 refine ops_nil (thn_n ?_)
 by_cases hc1 : (l.length : Int) = 1
 ·skip
  refine cond_t rfl (dT hc1) ?_
  refine seq (region (oA hH rfl rfl (ops_nil (thn_n (ret (thn_r ?_))))))
  refine fin hH (fun w' hf => (res1 rfl (show RV _ _ _ (.tmp 4) _ from rfl))) (fun w' hf => ?_)
  first | (rw [B.path_one (by omega)]; exact own_nil) | (rw [hpe]; exact Heap.own hf (n := 0) rfl)
 ·skip
  refine cond_f rfl (dF hc1) ?_
  refine skip (thn_n (seq (region (oM hH rfl rfl ?_))))
  refine ops_y hH rfl rfl (yv_len T.sl22 rfl (h0.now hH (n := 0) rfl).is) ?_
  refine op_fnV rfl rfl rfl hH (c96 (by omega)) (fun w2 hH3 => ?_)
  refine oA hH3 rfl rfl (ops_nil (thn_n (seq (seq ?_))))
  have hbh := B.half_lt (n := l.length) (by omega)
  refine region (oM hH3 rfl rfl (oM hH3 rfl rfl ?_))
  refine ops_y hH3 rfl rfl (yv_lss rfl rfl) ?_
  refine ops_nil (thn_n ?_)
  by_cases hc4 : (i : Int) < (B.half l.length : Int)
  ·skip
   have hpe := B.path_left (l := l) (i := i) (by omega) (by omega)
   have hpl := B.path_len (l := l.take (B.half l.length)) (i := i)
   rw [List.length_take] at hpl
   refine cond_t rfl (dT hc4) ?_
   refine seq ?_
   refine region_draw (fun w' => True) T.mixed (fun w5 hr6 => ?_)
   have hH7 := hH3.redrawn hr6
   refine any_takes [0, 1, 2, 3, 5, 6, 7] (by kernel_rfl) trivial _ _ _ (by kernel_rfl) ?_
   refine qM rfl rfl rfl (qM rfl rfl rfl ?_)
   refine qs_y rfl rfl (yv_cut_hi T.sl22 rfl rfl (h0.now hH7 (n := 0) rfl).is (by omega)) ?_
   refine qM rfl rfl rfl (qM rfl rfl rfl (qM rfl rfl rfl ?_))
   refine qs_y rfl rfl (yv_cut_lo T.sl22 rfl rfl (h0.now hH7 (n := 0) rfl).is (by omega)) ?_
   refine qs_nil ?_
   refine any_all [4] (by kernel_rfl) rfl ?_
   refine ⟨⟨_, rfl, ?_⟩, trivial⟩
   ·skip
    refine op_fn rfl rfl rfl hH7 (ih (i1 := i) (Rd.upto (h0.now hH7 (n := 0) rfl) (hi := (B.half l.length : Int).toNat) (by omega)) (by rw [List.length_take]; omega) (by rw [List.length_take]; omega) (B.InR.take hin _) (by rw [List.length_take]; omega)) (fun u10 w8 lo11 hi12 hH9 hv13 => ?_)
    have hH14 := Heap.toOw hH9 (n := 0) rfl
    refine ops_nil ?_
    refine ⟨trivial, ?_⟩
    refine any_all [8] (by kernel_rfl) rfl ?_
    refine ⟨⟨_, rfl, ?_⟩, trivial⟩
    ·skip
     refine op_fnV rfl rfl rfl hH14 (c44 (Rd.from (h0.now hH14 (n := 1) rfl) (lo := (B.half l.length : Int).toNat) (by omega)) (by rw [List.length_drop]; omega) (B.InR.drop hin _)) (fun w15 hH16 => ?_)
     refine ops_nil ?_
     refine ⟨trivial, ?_⟩
     refine any_all [9] (by kernel_rfl) rfl ?_
     refine ⟨⟨_, rfl, ?_⟩, trivial⟩
     ·skip
      refine op_lit (us := [(0, (.int .u64 ((B.root (l.drop (B.half l.length : Int).toNat)).toNat : Int)))]) T.el39_encW [B.root (l.drop (B.half l.length : Int).toNat)] rfl (by decide) rfl (fun a ha => by simp [ha.ev (show ev _ (.tmp 23) = some _ from rfl)]) (fun w => by kernel_rfl) hH16 (fun u17 lo19 hi20 w18 hH21 => ?_)
      refine ops_nil ?_
      refine ⟨trivial, ?_⟩
      refine any_all [10] (by kernel_rfl) rfl ?_
      refine ⟨⟨_, rfl, ?_⟩, trivial⟩
      ·skip
       refine op_append (n := 1) T.el39_encW rfl rfl rfl hH21 rfl (Heap.rdw T.el39_encW hH21 (n := 0) rfl) (by simp only [Int.toNat_natCast, List.length_cons, List.length_nil]; omega) (fun u22 lo24 hi25 w23 hH26 => ?_)
       refine ops_nil ?_
       refine ⟨trivial, ?_⟩
       refine any_takes [11] (by kernel_rfl) trivial _ _ _ (by kernel_rfl) ?_
       refine qs_y rfl rfl (yv_assign rfl) (qs_nil ?_)
       refine any_done (by kernel_rfl) ?_
       refine thn_n (ret (thn_r ?_))
       have hH27 := (hH26.sub (sC sR))
       refine fin (hH27.front (n := 1) rfl) (fun w' hf => (res1 rfl (show RV _ _ _ (.tmp 4) _ from rfl))) (fun w' hf => ?_)
       first | (rw [B.path_one (by omega)]; exact own_nil) | (rw [hpe]; exact Heap.own hf (n := 0) rfl)
  ·skip
   have hpe := B.path_right (l := l) (i := i) (by omega) (by omega)
   have hpl := B.path_len (l := l.drop (B.half l.length)) (i := i - (B.half l.length))
   rw [List.length_drop] at hpl
   refine cond_f rfl (dF hc4) ?_
   refine skip (thn_n (seq ?_))
   refine region_draw (fun w' => True) T.mixed (fun w28 hr29 => ?_)
   have hH30 := hH3.redrawn hr29
   refine any_takes [0, 1, 2, 3, 4, 5, 7, 8, 9] (by kernel_rfl) trivial _ _ _ (by kernel_rfl) ?_
   refine qM rfl rfl rfl (qM rfl rfl rfl ?_)
   refine qs_y rfl rfl (yv_cut_lo T.sl22 rfl rfl (h0.now hH30 (n := 0) rfl).is (by omega)) ?_
   refine qM rfl rfl rfl (qM rfl rfl rfl ?_)
   refine qs_y rfl rfl (yv_cast (show (i : Int) - (B.half l.length : Int) = ((i - B.half l.length : Nat) : Int) by omega) (yv_sub rfl rfl (by omega))) ?_
   refine qM rfl rfl rfl (qM rfl rfl rfl ?_)
   refine qs_y rfl rfl (yv_cut_hi T.sl22 rfl rfl (h0.now hH30 (n := 0) rfl).is (by omega)) ?_
   refine qs_nil ?_
   refine any_all [6] (by kernel_rfl) rfl ?_
   refine ⟨⟨_, rfl, ?_⟩, trivial⟩
   ·skip
    refine op_fn rfl rfl rfl hH30 (ih (i1 := (i - B.half l.length)) (Rd.from (h0.now hH30 (n := 0) rfl) (lo := (B.half l.length : Int).toNat) (by omega)) (by rw [List.length_drop]; omega) (by rw [List.length_drop]; omega) (B.InR.drop hin _) (by rw [List.length_drop]; omega)) (fun u33 w31 lo34 hi35 hH32 hv36 => ?_)
    have hH37 := Heap.toOw hH32 (n := 0) rfl
    refine ops_nil ?_
    refine ⟨trivial, ?_⟩
    refine any_all [10] (by kernel_rfl) rfl ?_
    refine ⟨⟨_, rfl, ?_⟩, trivial⟩
    ·skip
     refine op_fnV rfl rfl rfl hH37 (c44 (Rd.upto (h0.now hH37 (n := 1) rfl) (hi := (B.half l.length : Int).toNat) (by omega)) (by rw [List.length_take]; omega) (B.InR.take hin _)) (fun w38 hH39 => ?_)
     refine ops_nil ?_
     refine ⟨trivial, ?_⟩
     refine any_all [11] (by kernel_rfl) rfl ?_
     refine ⟨⟨_, rfl, ?_⟩, trivial⟩
     ·skip
      refine op_lit (us := [(0, (.int .u64 ((B.root (l.take (B.half l.length : Int).toNat)).toNat : Int)))]) T.el39_encW [B.root (l.take (B.half l.length : Int).toNat)] rfl (by decide) rfl (fun a ha => by simp [ha.ev (show ev _ (.tmp 36) = some _ from rfl)]) (fun w => by kernel_rfl) hH39 (fun u40 lo42 hi43 w41 hH44 => ?_)
      refine ops_nil ?_
      refine ⟨trivial, ?_⟩
      refine any_all [12] (by kernel_rfl) rfl ?_
      refine ⟨⟨_, rfl, ?_⟩, trivial⟩
      ·skip
       refine op_append (n := 1) T.el39_encW rfl rfl rfl hH44 rfl (Heap.rdw T.el39_encW hH44 (n := 0) rfl) (by simp only [Int.toNat_natCast, List.length_cons, List.length_nil]; omega) (fun u45 lo47 hi48 w46 hH49 => ?_)
       refine ops_nil ?_
       refine ⟨trivial, ?_⟩
       refine any_takes [13] (by kernel_rfl) trivial _ _ _ (by kernel_rfl) ?_
       refine qs_y rfl rfl (yv_assign rfl) (qs_nil ?_)
       refine any_done (by kernel_rfl) ?_
       refine thn_n (ret ?_)
       have hH50 := (hH49.sub (sC sR))
       refine fin (hH50.front (n := 1) rfl) (fun w' hf => (res1 rfl (show RV _ _ _ (.tmp 4) _ from rfl))) (fun w' hf => ?_)
       first | (rw [B.path_one (by omega)]; exact own_nil) | (rw [hpe]; exact Heap.own hf (n := 0) rfl)
theorem c72 {v : Value} {l : List En} {i : Nat} {w : World} (h0 : Rd encE 5 v l w) (hn : l.length ≤ 64) (hin : B.InR l) (hi : i < l.length) : Fn Tryz.prog 72 #[v, .int .i64 (i : Int)] w (fun u w => Own 32 1 encW u (B.path l i) w) := by
 induction hl : l.length using Nat.strongRecOn generalizing v l i w with
 | _ n ih => exact c72r h0 hn hin hi (fun h1 h2 h3 h4 h5 => ih _ (by omega) h1 h3 h4 h5 rfl)
theorem c28 {v : Value} {l : List En} {w : World} (h0 : Rd encE 5 v l w) (hn : l.length ≤ 1000000) {i : Int}  :
  Fn Tryz.prog 28 [(.agg #[v]), (.int .i64 i)].toArray w (fun u w => ∃ q, u = .tuple #[q, .int .i64 (B.pathR l i).2] ∧ Own 32 1 encW q (B.pathR l i).1 w) := by
 refine fn_of' (args := [(.agg #[v]), (.int .i64 i)]) Tryz.func28 rfl (ent Tryz.func28 (by kernel_rfl) rfl) rfl rfl (fun hH => ?_)
 refine seq (region ?_)
 refine op_box (us := [v]) rfl rfl rfl hH (fun b1 w2 hH3 => ?_)
 refine oA hH3 rfl rfl (oA hH3 rfl rfl (ops_nil (thn_n (seq (seq ?_)))))
 by_cases hc4 : B.ck l = 0
 ·skip
  have hc0 : B.ck l = 0 := ‹_›
  have hbk := B.ck_iff.1 hc0
  have hin0 := hbk.2.1
  have hl24 := hbk.1
  refine region ?_
  refine ops_y hH3 rfl rfl (yv_loadA (cs := [v]) T.agg24 rfl rfl (fun _ hw => Heap.cellsw hw (n := 0) rfl (k := 0) rfl)) ?_
  refine op_fnV rfl rfl rfl hH3 (c22 (h0.now hH3 (n := 1) rfl) (by omega)) (fun w5 hH6 => ?_)
  refine ops_y hH6 rfl rfl (yv_neq rfl rfl) ?_
  refine ops_nil (thn_n ?_)
  have hc7 : ¬ (¬ ((B.ck l) = 0)) := fun h => h hc0
  refine cond_f rfl (not_decide_f hc7) ?_
  refine skip (thn_n (seq (seq (region (oM hH6 rfl rfl ?_)))))
  refine ops_y hH6 rfl rfl (yv_lss rfl rfl) ?_
  refine oM hH6 rfl rfl ?_
  by_cases hc8 : i < 0
  ·skip
   refine guard_no rfl rfl (dT hc8) rfl ?_
   refine guard_no rfl rfl (dT hc8) rfl ?_
   refine guard_no rfl rfl (dT hc8) rfl ?_
   refine guard_no rfl rfl (dT hc8) rfl ?_
   refine guard_no rfl rfl (dT hc8) rfl ?_
   refine ops_y hH6 rfl rfl (yv_pick_t rfl (dT hc8) rfl) ?_
   refine ops_nil (thn_n ?_)
   refine cond_t rfl rfl ?_
   refine seq (region (oA hH6 rfl rfl (oA hH6 rfl rfl (ops_nil (thn_n (ret (thn_r ?_)))))))
   have hH9 := (hH6.sub (sC sR))
   refine fin hH9 (fun w' hf => (res2 rfl (show RV _ _ _ (.tmp 4) _ from rfl) (show RV _ _ _ (.tmp 5) _ from rfl))) (fun w' hf => ?_)
   first | (rw [B.pa1 hcn]; exact ⟨_, rfl, own_nil⟩) | (rw [B.pa2 hc0 (by omega)]; exact ⟨_, rfl, own_nil⟩) | (rw [B.pa3 hc0 (by omega)]; exact ⟨_, rfl, Heap.own hf (n := 0) rfl⟩)
  ·skip
   refine guard_yes rfl rfl (dF hc8) ?_
   refine oM hH6 rfl rfl ?_
   refine guard_yes rfl rfl (dF hc8) ?_
   refine ops_y hH6 rfl rfl (yv_field T.f24_0 rfl) ?_
   refine guard_yes rfl rfl (dF hc8) ?_
   refine ops_y hH6 rfl rfl (yv_load T.one22 rfl (fun _ hw => Heap.cellw hw (n := 0) rfl rfl)) ?_
   refine guard_yes rfl rfl (dF hc8) ?_
   refine ops_y hH6 rfl rfl (yv_len T.sl22 rfl (h0.now hH6 (n := 1) rfl).is) ?_
   refine guard_yes rfl rfl (dF hc8) ?_
   refine ops_y hH6 rfl rfl (yv_geq rfl rfl) ?_
   refine ops_y hH6 rfl rfl (yv_pick_f rfl (dF hc8) rfl) ?_
   refine ops_nil (thn_n ?_)
   by_cases hc10 : (l.length : Int) ≤ i
   ·skip
    refine cond_t rfl (dT hc10) ?_
    refine seq (region (oA hH6 rfl rfl (oA hH6 rfl rfl (ops_nil (thn_n (ret (thn_r ?_)))))))
    have hH11 := (hH6.sub (sC sR))
    refine fin hH11 (fun w' hf => (res2 rfl (show RV _ _ _ (.tmp 4) _ from rfl) (show RV _ _ _ (.tmp 5) _ from rfl))) (fun w' hf => ?_)
    first | (rw [B.pa1 hcn]; exact ⟨_, rfl, own_nil⟩) | (rw [B.pa2 hc0 (by omega)]; exact ⟨_, rfl, own_nil⟩) | (rw [B.pa3 hc0 (by omega)]; exact ⟨_, rfl, Heap.own hf (n := 0) rfl⟩)
   ·skip
    refine cond_f rfl (dF hc10) ?_
    refine skip (thn_n (seq (region ?_)))
    refine ops_y hH6 rfl rfl (yv_field T.f24_0 rfl) ?_
    refine ops_y hH6 rfl rfl (yv_load T.one22 rfl (fun _ hw => Heap.cellw hw (n := 0) rfl rfl)) ?_
    refine ops_y hH6 rfl rfl (yv_cast (show i = (i.toNat : Int) by omega) (yv_move rfl)) ?_
    refine op_fn rfl rfl rfl hH6 (c72 (i := i.toNat) (h0.now hH6 (n := 1) rfl) (by omega) hin0 (by omega)) (fun u14 w12 lo15 hi16 hH13 hv17 => ?_)
    have hH18 := Heap.toOw hH13 (n := 0) rfl
    refine oA hH18 rfl rfl (oA hH18 rfl rfl (ops_nil (thn_n (ret ?_))))
    have hH19 := (hH18.sub (List.Sublist.cons_cons _ (sC sR)))
    refine fin (hH19.front (n := 1) rfl) (fun w' hf => (res2 rfl (show RV _ _ _ (.tmp 4) _ from rfl) (show RV _ _ _ (.tmp 5) _ from rfl))) (fun w' hf => ?_)
    first | (rw [B.pa1 hcn]; exact ⟨_, rfl, own_nil⟩) | (rw [B.pa2 hc0 (by omega)]; exact ⟨_, rfl, own_nil⟩) | (rw [B.pa3 hc0 (by omega)]; exact ⟨_, rfl, Heap.own hf (n := 0) rfl⟩)
 ·skip
  have hcn : ¬ B.ck l = 0 := ‹_›
  refine region ?_
  refine ops_y hH3 rfl rfl (yv_loadA (cs := [v]) T.agg24 rfl rfl (fun _ hw => Heap.cellsw hw (n := 0) rfl (k := 0) rfl)) ?_
  refine op_fnV rfl rfl rfl hH3 (c22 (h0.now hH3 (n := 1) rfl) (by omega)) (fun w20 hH21 => ?_)
  refine ops_y hH21 rfl rfl (yv_neq rfl rfl) ?_
  refine ops_nil (thn_n ?_)
  have hc22 : ¬ ((B.ck l) = 0) := hcn
  refine cond_t rfl (not_decide_t hc22) ?_
  refine seq (region ?_)
  refine ops_y hH21 rfl rfl (yv_loadA (cs := [v]) T.agg24 rfl rfl (fun _ hw => Heap.cellsw hw (n := 0) rfl (k := 0) rfl)) ?_
  refine op_fnV rfl rfl rfl hH21 (c22 (h0.now hH21 (n := 1) rfl) (by omega)) (fun w23 hH24 => ?_)
  refine oA hH24 rfl rfl (oA hH24 rfl rfl (ops_nil (thn_n (ret (thn_r ?_)))))
  have hH25 := (hH24.sub (sC sR))
  refine fin hH25 (fun w' hf => (res2 rfl (show RV _ _ _ (.tmp 4) _ from rfl) (show RV _ _ _ (.tmp 5) _ from rfl))) (fun w' hf => ?_)
  first | (rw [B.pa1 hcn]; exact ⟨_, rfl, own_nil⟩) | (rw [B.pa2 hc0 (by omega)]; exact ⟨_, rfl, own_nil⟩) | (rw [B.pa3 hc0 (by omega)]; exact ⟨_, rfl, Heap.own hf (n := 0) rfl⟩)
theorem c71 {db mb : Nat} {v : Value} {l : List En} {m : B.Ms} {w : World} (hd : DeskK db mb v l w) (hm : Mp B.kvS B.vvW mb m w) (hW : B.Whole l m) (hn : l.length ≤ 24) {t : Nat} (ht : t < l.length)  :
  Fn Tryz.prog 71 [(.pointer (some ⟨db, 0, none⟩)), (.int .i64 (t : Int))].toArray w (fun u w => Own 32 1 encW u (B.path l t) w) := by
 refine fn_of' (args := [(.pointer (some ⟨db, 0, none⟩)), (.int .i64 (t : Int))]) Tryz.func71 rfl (ent Tryz.func71 (by kernel_rfl) rfl) rfl rfl (fun hH => ?_)
 refine seq (region ?_)
 refine op_box (us := [(.pointer (some ⟨db, 0, none⟩))]) rfl rfl rfl hH (fun b1 w2 hH3 => ?_)
 refine oA hH3 rfl rfl (ops_nil (thn_n (seq (region ?_))))
 refine op_alloc (z := (.slice none 0 0)) (us := [(.slice none 0 0)]) (fun _ => by kernel_rfl) rfl rfl hH3 (fun b4 w5 hH6 => ?_)
 refine ops_nil (thn_n (seq (region ?_)))
 refine ops_y hH6 rfl rfl (yv_load T.one77 rfl (fun _ hw => Heap.cellw hw (n := 1) rfl rfl)) ?_
 refine ops_y hH6 rfl rfl (yv_nilck rfl) ?_
 refine ops_y hH6 rfl rfl (yv_field T.f138_0 rfl) ?_
 refine ops_y hH6 rfl rfl (yv_field T.f24_0 rfl) ?_
 refine ops_y hH6 rfl rfl (yv_load T.one22 rfl (fun _ hw => bx_cell ((hd.now hw (n := 2) rfl).1) rfl)) ?_
 refine ops_y hH6 rfl rfl (yv_len T.sl22 rfl ((hd.now hH6 (n := 2) rfl).2).is) ?_
 refine ops_y hH6 rfl rfl (yv_build (v := (.agg #[(.int .i64 0), (.int .i64 (l.length : Int))])) (us := [(0, (.int .i64 0)), (1, (.int .i64 (l.length : Int)))]) (fun a ha => by simp [ha.ev (show ev _ (.const (.int .i64 0)) = some _ from rfl), ha.ev (show ev _ (.tmp 16) = some _ from rfl)]) (fun w => by kernel_rfl)) ?_
 refine op_alloc (z := (.agg #[(.int .i64 0), (.int .i64 0)])) (us := [(.int .i64 0), (.int .i64 0)]) (fun _ => by kernel_rfl) rfl rfl hH6 (fun b7 w8 hH9 => ?_)
 refine op_store (n := 0) (j := 0) (us := [(.int .i64 0), (.int .i64 (l.length : Int))]) rfl rfl hH9 rfl T.sz143 rfl rfl rfl (by rfl) (fun w10 hH11 => ?_)
 refine ops_nil (thn_n (seq (seq (region (oM hH11 rfl rfl ?_)))))
 refine ops_y hH11 rfl rfl (yv_field T.f143_1 rfl) ?_
 refine ops_y hH11 rfl rfl (yv_load T.one3 rfl (fun _ hw => Heap.cellw hw (n := 0) rfl rfl)) ?_
 refine op_fn rfl rfl rfl hH11 (c75 (i := (t : Int)) (n := (l.length : Int))) (fun u19 w17 lo20 hi21 hH18 hv22 => ?_)
 obtain ⟨c12, c13, hu, hne14, -⟩ := hv22
 subst hu
 obtain ⟨hH23, hbA15, hbB16⟩ := Heap.fixTwo (c1 := c12) (c2 := c13) (t1 := 3) (t2 := 3) (x := .int .i64 (l.length : Int)) (y := .int .i64 (t : Int)) hH18 (n := 0) rfl (fun w' h => by obtain ⟨c1', c2', e, _, h⟩ := h; cases e; exact h)
 refine ops_nil (thn_n (block ?_))
 have hH24 := ow_nil (enc := encW) 32 1 hH23
 have hH25 := hH24.front (n := 1) rfl
 refine rangeFuncO (xs := ((B.hv t l.length).map Value.bool)) rfl (it111 (c1 := c12) (c2 := c13) (lo := lo20) (hi := hi21) (n := l.length) (i := t) hne14 hbA15 hbB16 (by omega) (by omega)) rfl hH25 (fun i H => ∃ a : Nat, ∃ b : Nat, ∃ j : Nat, ∃ o : List UInt64, ∃ v_a : Value, ∃ lo_a : Nat, ∃ hi_a : Nat, H = [ow lo_a hi_a 32 1 encW v_a o, bx b7 143 [(.int .i64 (a : Int)), (.int .i64 (b : Int))], bx b4 39 [v_a], bx b1 77 [(.pointer (some ⟨db, 0, none⟩))], base w] ∧ B.Nd 0 l.length a b ∧ (B.hv t l.length).drop i = B.hv j (b - a) ∧ j < b - a ∧ b ≤ l.length ∧ B.path l t = B.path (B.sub l a b) j ++ o) (fun c H => False) ⟨0, l.length, t, [], (.slice none 0 0), w17.heap.size, w17.heap.size, rfl, .self _ _, rfl, ht, Nat.le_refl _, (by rw [B.sub_all, List.append_nil])⟩ (fun l26 D27 i28 x29 H w31 w35 rc hx30 hI hH32 => ?_) (fun D27 H w31 hI hH32 => ?_) (fun D27 c H w31 hI hH32 => ?_)
 ·skip
  obtain ⟨a, b, j, o, v_a, lo_a, hi_a, rfl, ⟨hnd, hdrop, hj, hb, hpath⟩⟩ := hI
  obtain ⟨hm2, hxe, hdn⟩ := B.hv_get hdrop hx30
  subst hxe
  have hbh := B.half_lt hm2
  have hbd := hnd.bds (by omega)
  have hdw := hnd.down hm2
  have hol : (B.path l t).length = (B.path (B.sub l a b) j).length + o.length := by rw [hpath, List.length_append]
  have hol2 := B.path_len (l := l) (i := t)
  refine region (oA hH32 rfl rfl (ops_nil ?_))
  refine ⟨_, hH32, fun w36 hH37 => ?_⟩
  refine block (seq ?_)
  refine region_draw (fun w' => Heap [recItem l26 { rc with state := .busy }, markItem D27, held lo20 hi21 w35, ow lo_a hi_a 32 1 encW v_a o, bx b7 143 [(.int .i64 (a : Int)), (.int .i64 (b : Int))], bx b4 39 [v_a], bx b1 77 [(.pointer (some ⟨db, 0, none⟩))], base w] w') T.mixed (fun w38 hr39 => ?_)
  have hH40 := hH37.redrawn hr39
  refine any_takes [0, 1, 2, 3, 4, 5, 6] (by kernel_rfl) hH40 _ _ _ (by kernel_rfl) ?_
  refine qs_y rfl rfl (yv_field T.f143_0 rfl) ?_
  refine qs_y rfl rfl (yv_load T.one3 rfl (fun _ hw => Heap.cellw hw (n := 4) rfl rfl)) ?_
  refine qs_y rfl rfl (yv_field T.f143_1 rfl) ?_
  refine qs_y rfl rfl (yv_load T.one3 rfl (fun _ hw => Heap.cellw hw (n := 4) rfl rfl)) ?_
  refine qs_y rfl rfl (yv_field T.f143_0 rfl) ?_
  refine qs_y rfl rfl (yv_load T.one3 rfl (fun _ hw => Heap.cellw hw (n := 4) rfl rfl)) ?_
  refine qs_y rfl rfl (yv_cast (show _ = ((b - a : Nat) : Int) by omega) (yv_sub rfl rfl (by omega))) ?_
  refine qs_nil ?_
  refine any_all [7] (by kernel_rfl) rfl ?_
  refine ⟨⟨_, rfl, ?_⟩, trivial⟩
  ·skip
   refine op_fnV rfl rfl rfl hH40 (c107 (by omega)) (fun w41 hH42 => ?_)
   refine ops_nil ?_
   refine ⟨hH42, ?_⟩
   refine any_takes [8, 9] (by kernel_rfl) hH42 _ _ _ (by kernel_rfl) ?_
   refine qs_y rfl rfl (yv_cast (show (a : Int) + (B.half (b - a) : Int) = ((a + B.half (b - a) : Nat) : Int) by omega) (yv_add rfl rfl (by omega))) ?_
   refine qs_y rfl rfl (yv_assign rfl) (qs_nil ?_)
   refine any_done (by kernel_rfl) ?_
   refine thn_n (seq ?_)
   refine region_draw (fun w' => Heap [recItem l26 { rc with state := .busy }, markItem D27, held lo20 hi21 w35, ow lo_a hi_a 32 1 encW v_a o, bx b7 143 [(.int .i64 (a : Int)), (.int .i64 (b : Int))], bx b4 39 [v_a], bx b1 77 [(.pointer (some ⟨db, 0, none⟩))], base w] w') T.mixed (fun w43 hr44 => ?_)
   have hH45 := hH42.redrawn hr44
   refine any_takes [0, 1, 2, 3, 4, 5, 6, 7] (by kernel_rfl) hH45 _ _ _ (by kernel_rfl) ?_
   refine qs_y rfl rfl (yv_field T.f143_0 rfl) ?_
   refine qs_y rfl rfl (yv_load T.one3 rfl (fun _ hw => Heap.cellw hw (n := 4) rfl rfl)) ?_
   refine qM rfl rfl rfl ?_
   refine qs_y rfl rfl (yv_build (v := (.agg #[(.int .i64 (a : Int)), (.int .i64 ((a + B.half (b - a) : Nat) : Int))])) (us := [(0, (.int .i64 (a : Int))), (1, (.int .i64 ((a + B.half (b - a) : Nat) : Int)))]) (fun a ha => by simp [ha.ev (show ev _ (.tmp 33) = some _ from rfl), ha.ev (show ev _ (.tmp 34) = some _ from rfl)]) (fun w => by kernel_rfl)) ?_
   refine qM rfl rfl rfl ?_
   refine qs_y rfl rfl (yv_field T.f143_1 rfl) ?_
   refine qs_y rfl rfl (yv_load T.one3 rfl (fun _ hw => Heap.cellw hw (n := 4) rfl rfl)) ?_
   refine qs_y rfl rfl (yv_build (v := (.agg #[(.int .i64 ((a + B.half (b - a) : Nat) : Int)), (.int .i64 (b : Int))])) (us := [(0, (.int .i64 ((a + B.half (b - a) : Nat) : Int))), (1, (.int .i64 (b : Int)))]) (fun a ha => by simp [ha.ev (show ev _ (.tmp 36) = some _ from rfl), ha.ev (show ev _ (.tmp 38) = some _ from rfl)]) (fun w => by kernel_rfl)) ?_
   refine qs_nil ?_
   refine any_all [8, 9] (by kernel_rfl) rfl ?_
   refine ⟨⟨_, rfl, ?_⟩, ⟨_, rfl, ?_⟩, trivial⟩
   ·skip
    refine op_alloc (z := (.agg #[(.int .i64 0), (.int .i64 0)])) (us := [(.int .i64 0), (.int .i64 0)]) (fun _ => by kernel_rfl) rfl rfl hH45 (fun b46 w47 hH48 => ?_)
    refine ops_nil ?_
    refine ⟨(hH48.sub (sC sR)), ?_⟩
    refine any_all [9] (by kernel_rfl) rfl ?_
    refine ⟨⟨_, rfl, ?_⟩, trivial⟩
    ·skip
     refine op_alloc (z := (.agg #[(.int .i64 0), (.int .i64 0)])) (us := [(.int .i64 0), (.int .i64 0)]) (fun _ => by kernel_rfl) rfl rfl hH48 (fun b49 w50 hH51 => ?_)
     refine ops_nil ?_
     refine ⟨(hH51.sub (sC (sC sR))), ?_⟩
     refine any_all [10] (by kernel_rfl) rfl ?_
     refine ⟨⟨_, rfl, ?_⟩, trivial⟩
     ·skip
      refine op_store (n := 1) (j := 0) (us := [(.int .i64 (a : Int)), (.int .i64 ((a + B.half (b - a) : Nat) : Int))]) rfl rfl hH51 rfl T.sz143 rfl rfl rfl (by rfl) (fun w52 hH53 => ?_)
      refine ops_nil ?_
      refine ⟨(hH53.sub (sC (sC sR))), ?_⟩
      refine any_all [11] (by kernel_rfl) rfl ?_
      refine ⟨⟨_, rfl, ?_⟩, trivial⟩
      ·skip
       refine op_store (n := 0) (j := 0) (us := [(.int .i64 ((a + B.half (b - a) : Nat) : Int)), (.int .i64 (b : Int))]) rfl rfl hH53 rfl T.sz143 rfl rfl rfl (by rfl) (fun w54 hH55 => ?_)
       refine ops_nil ?_
       refine ⟨(hH55.sub (sC (sC sR))), ?_⟩
       refine any_done (by kernel_rfl) ?_
       refine thn_n (seq (seq (region (oM hH55 rfl rfl ?_))))
       refine ops_y hH55 rfl rfl (yv_not rfl) ?_
       refine ops_nil (thn_n ?_)
       by_cases hc56 : (j : Int) < (B.half (b - a) : Int)
       ·skip
        have hlt : j < B.half (b - a) := by omega
        refine cond_f rfl (not_decide_n hc56) ?_
        refine skip (thn_n (seq ?_))
        have hval : (find ((((a + B.half (b - a)) : Nat) : Int), ((b : Nat) : Int)) m).getD 0 = B.root (B.sub l (a + B.half (b - a)) b) := hW.at (by omega) hdw.2
        refine region_drawY (fun w' => Heap [bx b49 143 [(.int .i64 ((a + B.half (b - a) : Nat) : Int)), (.int .i64 (b : Int))], bx b46 143 [(.int .i64 (a : Int)), (.int .i64 ((a + B.half (b - a) : Nat) : Int))], recItem l26 { rc with state := .busy }, markItem D27, held lo20 hi21 w35, bx b7 143 [(.int .i64 (a : Int)), (.int .i64 (b : Int))], bx b4 39 [v_a], bx b1 77 [(.pointer (some ⟨db, 0, none⟩))], base w] w') [14] T.mixed (fun w57 hr58 => ?_)
        have hH59 := hH55.redrawn hr58
        refine any_takesY [0, 4, 7, 8, 10] (by kernel_rfl) (hH59.sub (List.Sublist.cons_cons _ (List.Sublist.cons_cons _ (List.Sublist.cons_cons _ (List.Sublist.cons_cons _ (List.Sublist.cons_cons _ (sC sR))))))) _ _ _ (by kernel_rfl) ?_
        refine qs_y rfl rfl (yv_load T.one77 rfl (fun _ hw => Heap.cellw hw (n := 7) rfl rfl)) ?_
        refine qs_y rfl rfl (yv_loadA (cs := [(.int .i64 ((a + B.half (b - a) : Nat) : Int)), (.int .i64 (b : Int))]) T.agg143 rfl rfl (fun _ hw => Heap.cellsw hw (n := 0) rfl (k := 0) rfl)) ?_
        refine qs_y rfl rfl (yv_load T.one39 rfl (fun _ hw => Heap.cellw hw (n := 6) rfl rfl)) ?_
        refine qs_y rfl rfl (yv_load T.one39 rfl (fun _ hw => Heap.cellw hw (n := 6) rfl rfl)) ?_
        refine qs_y rfl rfl (yv_load T.one39 rfl (fun _ hw => Heap.cellw hw (n := 6) rfl rfl)) ?_
        refine qs_nil ?_
        refine any_takesT [1, 2, 9, 11, 12] (by kernel_rfl)  _ _ _ (by kernel_rfl) ?_
        refine qs_y rfl rfl (yv_nilck rfl) ?_
        refine qs_y rfl rfl (yv_field T.f138_1 rfl) ?_
        refine qs_y rfl rfl (yv_len T.sl39 rfl (Heap.rdw T.el39_encW hH59 (n := 5) rfl).is) ?_
        refine qs_y rfl rfl (yv_len T.sl39 rfl (Heap.rdw T.el39_encW hH59 (n := 5) rfl).is) ?_
        refine qs_y rfl rfl (yv_cut3 T.sl39 rfl rfl rfl (Heap.rdw T.el39_encW hH59 (n := 5) rfl).is (by omega)) ?_
        refine qs_nil ?_
        refine any_takesY [3, 5] (by kernel_rfl) (hH59.sub (List.Sublist.cons_cons _ (List.Sublist.cons_cons _ (List.Sublist.cons_cons _ (List.Sublist.cons_cons _ (List.Sublist.cons_cons _ (sC sR))))))) _ _ _ (by kernel_rfl) ?_
        refine qs_y rfl rfl (yv_load T.one136 rfl (fun _ hw => bx_cell ((hd.now hw (n := 8) rfl).1) rfl)) ?_
        refine qs_y rfl rfl (yv_cast (by rw [hval]) (yv_lookup (k := ((((a + B.half (b - a) : Nat) : Int), (b : Int)) : Int × Int)) T.m136 rfl rfl (fun _ hw => (hm.now hw (n := 8) rfl)))) ?_
        refine qs_nil ?_
        refine any_allY [6] (by kernel_rfl) rfl ?_
        refine ⟨⟨_, rfl, ?_⟩, trivial⟩
        ·skip
         refine op_lit (us := [(0, (.int .u64 ((B.root (B.sub l (a + B.half (b - a)) b)).toNat : Int)))]) T.el39_encW [B.root (B.sub l (a + B.half (b - a)) b)] rfl (by decide) rfl (fun a ha => by simp [ha.ev (show ev _ (.tmp 49) = some _ from rfl)]) (fun w => by kernel_rfl) hH59 (fun u60 lo62 hi63 w61 hH64 => ?_)
         refine ops_nil ?_
         refine ⟨fun _ _ => (hH64.sub (sC (List.Sublist.cons_cons _ (List.Sublist.cons_cons _ (List.Sublist.cons_cons _ (List.Sublist.cons_cons _ (List.Sublist.cons_cons _ (sC sR)))))))), ?_⟩
         refine any_allY [13] (by kernel_rfl) rfl ?_
         refine ⟨⟨_, rfl, ?_⟩, trivial⟩
         ·skip
          refine op_append (n := 0) T.el39_encW rfl rfl rfl hH64 rfl (Rd.cut3n (Heap.rdw T.el39_encW hH64 (n := 6) rfl) ) (by first | omega | (simp only [List.length_append, List.length_cons, List.length_nil]; omega)) (fun u65 lo67 hi68 w66 hH69 => ?_)
          refine ops_nil ?_
          refine ⟨fun _ _ => (hH69.sub (sC (List.Sublist.cons_cons _ (List.Sublist.cons_cons _ (List.Sublist.cons_cons _ (List.Sublist.cons_cons _ (List.Sublist.cons_cons _ (sC sR)))))))), ?_⟩
          refine any_allY [14] (by kernel_rfl) rfl ?_
          refine ⟨⟨_, rfl, ?_⟩, trivial⟩
          ·skip
           refine op_store (n := 8) (j := 0) (us := [u65]) rfl rfl hH69 rfl T.sz39 (SliceIs.cells (Heap.rdw T.el39_encW hH69 (n := 0) rfl).is) rfl rfl (SliceIs.one (Heap.rdw T.el39_encW hH69 (n := 0) rfl).is) (fun w70 hH71 => ?_)
           refine ops_nil ?_
           refine ⟨(fun h => by cases h), ?_⟩
           refine any_doneY (by kernel_rfl) ?_
           refine thn_n (region ?_)
           refine ops_y hH71 rfl rfl (yv_loadA (cs := [(.int .i64 (a : Int)), (.int .i64 ((a + B.half (b - a) : Nat) : Int))]) T.agg143 rfl rfl (fun _ hw => Heap.cellsw hw (n := 2) rfl (k := 0) rfl)) ?_
           refine op_store (n := 7) (j := 0) (us := [(.int .i64 (a : Int)), (.int .i64 ((a + B.half (b - a) : Nat) : Int))]) rfl rfl hH71 rfl T.sz143 rfl rfl rfl (by rfl) (fun w72 hH73 => ?_)
           refine ops_nil (blk_n ?_)
           have hH74 := hH73.front (n := 10) rfl
           have hH75 := hH74.front (n := 10) rfl
           have hH76 := hH75.front (n := 10) rfl
           have hH77 := hH76.front (n := 10) rfl
           have hH78 := hH77.front (n := 4) rfl
           have hH79 := hH78.front (n := 9) rfl
           have hH80 := hH79.front (n := 9) rfl
           have hH81 := hH80.front (n := 9) rfl
           have hH82 := (hH81.sub (List.Sublist.cons_cons _ (List.Sublist.cons_cons _ (List.Sublist.cons_cons _ (List.Sublist.cons_cons _ (List.Sublist.cons_cons _ (List.Sublist.cons_cons _ (List.Sublist.cons_cons _ (List.Sublist.cons_cons _ (List.nil_sublist _))))))))))
           exact ⟨_, ⟨_, ⟨a, (a + B.half (b - a)), j, ([B.root (B.sub l (a + B.half (b - a)) b)] ++ o), u65, lo67, hi68, rfl, ⟨hdw.1, (by rw [hdn, if_pos hlt, show a + B.half (b - a) - a = B.half (b - a) by omega]), by omega, by omega, (by rw [hpath, B.path_sub_left hb hm2 hlt, List.append_assoc])⟩⟩, rfl⟩, (Heap.recast (n := 3) hH82 rfl (rfl))⟩
       ·skip
        have hge : ¬ j < B.half (b - a) := by omega
        refine cond_t rfl (not_decide_t hc56) ?_
        refine region ?_
        refine ops_y hH55 rfl rfl (yv_loadA (cs := [(.int .i64 ((a + B.half (b - a) : Nat) : Int)), (.int .i64 (b : Int))]) T.agg143 rfl rfl (fun _ hw => Heap.cellsw hw (n := 0) rfl (k := 0) rfl)) ?_
        refine ops_y hH55 rfl rfl (yv_loadA (cs := [(.int .i64 (a : Int)), (.int .i64 ((a + B.half (b - a) : Nat) : Int))]) T.agg143 rfl rfl (fun _ hw => Heap.cellsw hw (n := 1) rfl (k := 0) rfl)) ?_
        refine op_store (n := 1) (j := 0) (us := [(.int .i64 ((a + B.half (b - a) : Nat) : Int)), (.int .i64 (b : Int))]) rfl rfl hH55 rfl T.sz143 rfl rfl rfl (by rfl) (fun w83 hH84 => ?_)
        refine op_store (n := 0) (j := 0) (us := [(.int .i64 (a : Int)), (.int .i64 ((a + B.half (b - a) : Nat) : Int))]) rfl rfl hH84 rfl T.sz143 rfl rfl rfl (by rfl) (fun w85 hH86 => ?_)
        refine ops_nil (thn_n (seq ?_))
        have hval : (find (((a : Nat) : Int), (((a + B.half (b - a)) : Nat) : Int)) m).getD 0 = B.root (B.sub l a (a + B.half (b - a))) := hW.at (by omega) hdw.1
        refine region_drawY (fun w' => Heap [bx b49 143 [(.int .i64 (a : Int)), (.int .i64 ((a + B.half (b - a) : Nat) : Int))], bx b46 143 [(.int .i64 ((a + B.half (b - a) : Nat) : Int)), (.int .i64 (b : Int))], recItem l26 { rc with state := .busy }, markItem D27, held lo20 hi21 w35, bx b7 143 [(.int .i64 (a : Int)), (.int .i64 (b : Int))], bx b4 39 [v_a], bx b1 77 [(.pointer (some ⟨db, 0, none⟩))], base w] w') [14] T.mixed (fun w87 hr88 => ?_)
        have hH89 := hH86.redrawn hr88
        refine any_takesY [0, 4, 7, 8, 10] (by kernel_rfl) (hH89.sub (List.Sublist.cons_cons _ (List.Sublist.cons_cons _ (List.Sublist.cons_cons _ (List.Sublist.cons_cons _ (List.Sublist.cons_cons _ (sC sR))))))) _ _ _ (by kernel_rfl) ?_
        refine qs_y rfl rfl (yv_load T.one77 rfl (fun _ hw => Heap.cellw hw (n := 7) rfl rfl)) ?_
        refine qs_y rfl rfl (yv_loadA (cs := [(.int .i64 (a : Int)), (.int .i64 ((a + B.half (b - a) : Nat) : Int))]) T.agg143 rfl rfl (fun _ hw => Heap.cellsw hw (n := 0) rfl (k := 0) rfl)) ?_
        refine qs_y rfl rfl (yv_load T.one39 rfl (fun _ hw => Heap.cellw hw (n := 6) rfl rfl)) ?_
        refine qs_y rfl rfl (yv_load T.one39 rfl (fun _ hw => Heap.cellw hw (n := 6) rfl rfl)) ?_
        refine qs_y rfl rfl (yv_load T.one39 rfl (fun _ hw => Heap.cellw hw (n := 6) rfl rfl)) ?_
        refine qs_nil ?_
        refine any_takesT [1, 2, 9, 11, 12] (by kernel_rfl)  _ _ _ (by kernel_rfl) ?_
        refine qs_y rfl rfl (yv_nilck rfl) ?_
        refine qs_y rfl rfl (yv_field T.f138_1 rfl) ?_
        refine qs_y rfl rfl (yv_len T.sl39 rfl (Heap.rdw T.el39_encW hH89 (n := 5) rfl).is) ?_
        refine qs_y rfl rfl (yv_len T.sl39 rfl (Heap.rdw T.el39_encW hH89 (n := 5) rfl).is) ?_
        refine qs_y rfl rfl (yv_cut3 T.sl39 rfl rfl rfl (Heap.rdw T.el39_encW hH89 (n := 5) rfl).is (by omega)) ?_
        refine qs_nil ?_
        refine any_takesY [3, 5] (by kernel_rfl) (hH89.sub (List.Sublist.cons_cons _ (List.Sublist.cons_cons _ (List.Sublist.cons_cons _ (List.Sublist.cons_cons _ (List.Sublist.cons_cons _ (sC sR))))))) _ _ _ (by kernel_rfl) ?_
        refine qs_y rfl rfl (yv_load T.one136 rfl (fun _ hw => bx_cell ((hd.now hw (n := 8) rfl).1) rfl)) ?_
        refine qs_y rfl rfl (yv_cast (by rw [hval]) (yv_lookup (k := (((a : Int), ((a + B.half (b - a) : Nat) : Int)) : Int × Int)) T.m136 rfl rfl (fun _ hw => (hm.now hw (n := 8) rfl)))) ?_
        refine qs_nil ?_
        refine any_allY [6] (by kernel_rfl) rfl ?_
        refine ⟨⟨_, rfl, ?_⟩, trivial⟩
        ·skip
         refine op_lit (us := [(0, (.int .u64 ((B.root (B.sub l a (a + B.half (b - a)))).toNat : Int)))]) T.el39_encW [B.root (B.sub l a (a + B.half (b - a)))] rfl (by decide) rfl (fun a ha => by simp [ha.ev (show ev _ (.tmp 49) = some _ from rfl)]) (fun w => by kernel_rfl) hH89 (fun u90 lo92 hi93 w91 hH94 => ?_)
         refine ops_nil ?_
         refine ⟨fun _ _ => (hH94.sub (sC (List.Sublist.cons_cons _ (List.Sublist.cons_cons _ (List.Sublist.cons_cons _ (List.Sublist.cons_cons _ (List.Sublist.cons_cons _ (sC sR)))))))), ?_⟩
         refine any_allY [13] (by kernel_rfl) rfl ?_
         refine ⟨⟨_, rfl, ?_⟩, trivial⟩
         ·skip
          refine op_append (n := 0) T.el39_encW rfl rfl rfl hH94 rfl (Rd.cut3n (Heap.rdw T.el39_encW hH94 (n := 6) rfl) ) (by first | omega | (simp only [List.length_append, List.length_cons, List.length_nil]; omega)) (fun u95 lo97 hi98 w96 hH99 => ?_)
          refine ops_nil ?_
          refine ⟨fun _ _ => (hH99.sub (sC (List.Sublist.cons_cons _ (List.Sublist.cons_cons _ (List.Sublist.cons_cons _ (List.Sublist.cons_cons _ (List.Sublist.cons_cons _ (sC sR)))))))), ?_⟩
          refine any_allY [14] (by kernel_rfl) rfl ?_
          refine ⟨⟨_, rfl, ?_⟩, trivial⟩
          ·skip
           refine op_store (n := 8) (j := 0) (us := [u95]) rfl rfl hH99 rfl T.sz39 (SliceIs.cells (Heap.rdw T.el39_encW hH99 (n := 0) rfl).is) rfl rfl (SliceIs.one (Heap.rdw T.el39_encW hH99 (n := 0) rfl).is) (fun w100 hH101 => ?_)
           refine ops_nil ?_
           refine ⟨(fun h => by cases h), ?_⟩
           refine any_doneY (by kernel_rfl) ?_
           refine thn_n (region ?_)
           refine ops_y hH101 rfl rfl (yv_loadA (cs := [(.int .i64 ((a + B.half (b - a) : Nat) : Int)), (.int .i64 (b : Int))]) T.agg143 rfl rfl (fun _ hw => Heap.cellsw hw (n := 2) rfl (k := 0) rfl)) ?_
           refine op_store (n := 7) (j := 0) (us := [(.int .i64 ((a + B.half (b - a) : Nat) : Int)), (.int .i64 (b : Int))]) rfl rfl hH101 rfl T.sz143 rfl rfl rfl (by rfl) (fun w102 hH103 => ?_)
           refine ops_nil (blk_n ?_)
           have hH104 := hH103.front (n := 10) rfl
           have hH105 := hH104.front (n := 10) rfl
           have hH106 := hH105.front (n := 10) rfl
           have hH107 := hH106.front (n := 10) rfl
           have hH108 := hH107.front (n := 4) rfl
           have hH109 := hH108.front (n := 9) rfl
           have hH110 := hH109.front (n := 9) rfl
           have hH111 := hH110.front (n := 9) rfl
           have hH112 := (hH111.sub (List.Sublist.cons_cons _ (List.Sublist.cons_cons _ (List.Sublist.cons_cons _ (List.Sublist.cons_cons _ (List.Sublist.cons_cons _ (List.Sublist.cons_cons _ (List.Sublist.cons_cons _ (List.Sublist.cons_cons _ (List.nil_sublist _))))))))))
           exact ⟨_, ⟨_, ⟨(a + B.half (b - a)), b, (j - B.half (b - a)), ([B.root (B.sub l a (a + B.half (b - a)))] ++ o), u95, lo97, hi98, rfl, ⟨hdw.2, (by rw [hdn, if_neg hge, show b - (a + B.half (b - a)) = b - a - B.half (b - a) by omega]), by omega, by omega, (by rw [hpath, B.path_sub_right hb hm2 hge, List.append_assoc])⟩⟩, rfl⟩, (Heap.recast (n := 3) hH112 rfl (rfl))⟩
   ·skip
    refine op_alloc (z := (.agg #[(.int .i64 0), (.int .i64 0)])) (us := [(.int .i64 0), (.int .i64 0)]) (fun _ => by kernel_rfl) rfl rfl hH45 (fun b113 w114 hH115 => ?_)
    refine ops_nil ?_
    refine ⟨(hH115.sub (sC sR)), ?_⟩
    refine any_all [8] (by kernel_rfl) rfl ?_
    refine ⟨⟨_, rfl, ?_⟩, trivial⟩
    ·skip
     refine op_alloc (z := (.agg #[(.int .i64 0), (.int .i64 0)])) (us := [(.int .i64 0), (.int .i64 0)]) (fun _ => by kernel_rfl) rfl rfl hH115 (fun b116 w117 hH118 => ?_)
     refine ops_nil ?_
     refine ⟨(hH118.sub (sC (sC sR))), ?_⟩
     refine any_all [10] (by kernel_rfl) rfl ?_
     refine ⟨⟨_, rfl, ?_⟩, trivial⟩
     ·skip
      refine op_store (n := 0) (j := 0) (us := [(.int .i64 (a : Int)), (.int .i64 ((a + B.half (b - a) : Nat) : Int))]) rfl rfl hH118 rfl T.sz143 rfl rfl rfl (by rfl) (fun w119 hH120 => ?_)
      refine ops_nil ?_
      refine ⟨(hH120.sub (sC (sC sR))), ?_⟩
      refine any_all [11] (by kernel_rfl) rfl ?_
      refine ⟨⟨_, rfl, ?_⟩, trivial⟩
      ·skip
       refine op_store (n := 1) (j := 0) (us := [(.int .i64 ((a + B.half (b - a) : Nat) : Int)), (.int .i64 (b : Int))]) rfl rfl hH120 rfl T.sz143 rfl rfl rfl (by rfl) (fun w121 hH122 => ?_)
       refine ops_nil ?_
       refine ⟨(hH122.sub (sC (sC sR))), ?_⟩
       refine any_done (by kernel_rfl) ?_
       refine thn_n (seq (seq (region (oM hH122 rfl rfl ?_))))
       refine ops_y hH122 rfl rfl (yv_not rfl) ?_
       refine ops_nil (thn_n ?_)
       by_cases hc123 : (j : Int) < (B.half (b - a) : Int)
       ·skip
        have hlt : j < B.half (b - a) := by omega
        refine cond_f rfl (not_decide_n hc123) ?_
        refine skip (thn_n (seq ?_))
        have hval : (find ((((a + B.half (b - a)) : Nat) : Int), ((b : Nat) : Int)) m).getD 0 = B.root (B.sub l (a + B.half (b - a)) b) := hW.at (by omega) hdw.2
        refine region_drawY (fun w' => Heap [bx b116 143 [(.int .i64 (a : Int)), (.int .i64 ((a + B.half (b - a) : Nat) : Int))], bx b113 143 [(.int .i64 ((a + B.half (b - a) : Nat) : Int)), (.int .i64 (b : Int))], recItem l26 { rc with state := .busy }, markItem D27, held lo20 hi21 w35, bx b7 143 [(.int .i64 (a : Int)), (.int .i64 (b : Int))], bx b4 39 [v_a], bx b1 77 [(.pointer (some ⟨db, 0, none⟩))], base w] w') [14] T.mixed (fun w124 hr125 => ?_)
        have hH126 := hH122.redrawn hr125
        refine any_takesY [0, 4, 7, 8, 10] (by kernel_rfl) (hH126.sub (List.Sublist.cons_cons _ (List.Sublist.cons_cons _ (List.Sublist.cons_cons _ (List.Sublist.cons_cons _ (List.Sublist.cons_cons _ (sC sR))))))) _ _ _ (by kernel_rfl) ?_
        refine qs_y rfl rfl (yv_load T.one77 rfl (fun _ hw => Heap.cellw hw (n := 7) rfl rfl)) ?_
        refine qs_y rfl rfl (yv_loadA (cs := [(.int .i64 ((a + B.half (b - a) : Nat) : Int)), (.int .i64 (b : Int))]) T.agg143 rfl rfl (fun _ hw => Heap.cellsw hw (n := 1) rfl (k := 0) rfl)) ?_
        refine qs_y rfl rfl (yv_load T.one39 rfl (fun _ hw => Heap.cellw hw (n := 6) rfl rfl)) ?_
        refine qs_y rfl rfl (yv_load T.one39 rfl (fun _ hw => Heap.cellw hw (n := 6) rfl rfl)) ?_
        refine qs_y rfl rfl (yv_load T.one39 rfl (fun _ hw => Heap.cellw hw (n := 6) rfl rfl)) ?_
        refine qs_nil ?_
        refine any_takesT [1, 2, 9, 11, 12] (by kernel_rfl)  _ _ _ (by kernel_rfl) ?_
        refine qs_y rfl rfl (yv_nilck rfl) ?_
        refine qs_y rfl rfl (yv_field T.f138_1 rfl) ?_
        refine qs_y rfl rfl (yv_len T.sl39 rfl (Heap.rdw T.el39_encW hH126 (n := 5) rfl).is) ?_
        refine qs_y rfl rfl (yv_len T.sl39 rfl (Heap.rdw T.el39_encW hH126 (n := 5) rfl).is) ?_
        refine qs_y rfl rfl (yv_cut3 T.sl39 rfl rfl rfl (Heap.rdw T.el39_encW hH126 (n := 5) rfl).is (by omega)) ?_
        refine qs_nil ?_
        refine any_takesY [3, 5] (by kernel_rfl) (hH126.sub (List.Sublist.cons_cons _ (List.Sublist.cons_cons _ (List.Sublist.cons_cons _ (List.Sublist.cons_cons _ (List.Sublist.cons_cons _ (sC sR))))))) _ _ _ (by kernel_rfl) ?_
        refine qs_y rfl rfl (yv_load T.one136 rfl (fun _ hw => bx_cell ((hd.now hw (n := 8) rfl).1) rfl)) ?_
        refine qs_y rfl rfl (yv_cast (by rw [hval]) (yv_lookup (k := ((((a + B.half (b - a) : Nat) : Int), (b : Int)) : Int × Int)) T.m136 rfl rfl (fun _ hw => (hm.now hw (n := 8) rfl)))) ?_
        refine qs_nil ?_
        refine any_allY [6] (by kernel_rfl) rfl ?_
        refine ⟨⟨_, rfl, ?_⟩, trivial⟩
        ·skip
         refine op_lit (us := [(0, (.int .u64 ((B.root (B.sub l (a + B.half (b - a)) b)).toNat : Int)))]) T.el39_encW [B.root (B.sub l (a + B.half (b - a)) b)] rfl (by decide) rfl (fun a ha => by simp [ha.ev (show ev _ (.tmp 49) = some _ from rfl)]) (fun w => by kernel_rfl) hH126 (fun u127 lo129 hi130 w128 hH131 => ?_)
         refine ops_nil ?_
         refine ⟨fun _ _ => (hH131.sub (sC (List.Sublist.cons_cons _ (List.Sublist.cons_cons _ (List.Sublist.cons_cons _ (List.Sublist.cons_cons _ (List.Sublist.cons_cons _ (sC sR)))))))), ?_⟩
         refine any_allY [13] (by kernel_rfl) rfl ?_
         refine ⟨⟨_, rfl, ?_⟩, trivial⟩
         ·skip
          refine op_append (n := 0) T.el39_encW rfl rfl rfl hH131 rfl (Rd.cut3n (Heap.rdw T.el39_encW hH131 (n := 6) rfl) ) (by first | omega | (simp only [List.length_append, List.length_cons, List.length_nil]; omega)) (fun u132 lo134 hi135 w133 hH136 => ?_)
          refine ops_nil ?_
          refine ⟨fun _ _ => (hH136.sub (sC (List.Sublist.cons_cons _ (List.Sublist.cons_cons _ (List.Sublist.cons_cons _ (List.Sublist.cons_cons _ (List.Sublist.cons_cons _ (sC sR)))))))), ?_⟩
          refine any_allY [14] (by kernel_rfl) rfl ?_
          refine ⟨⟨_, rfl, ?_⟩, trivial⟩
          ·skip
           refine op_store (n := 8) (j := 0) (us := [u132]) rfl rfl hH136 rfl T.sz39 (SliceIs.cells (Heap.rdw T.el39_encW hH136 (n := 0) rfl).is) rfl rfl (SliceIs.one (Heap.rdw T.el39_encW hH136 (n := 0) rfl).is) (fun w137 hH138 => ?_)
           refine ops_nil ?_
           refine ⟨(fun h => by cases h), ?_⟩
           refine any_doneY (by kernel_rfl) ?_
           refine thn_n (region ?_)
           refine ops_y hH138 rfl rfl (yv_loadA (cs := [(.int .i64 (a : Int)), (.int .i64 ((a + B.half (b - a) : Nat) : Int))]) T.agg143 rfl rfl (fun _ hw => Heap.cellsw hw (n := 1) rfl (k := 0) rfl)) ?_
           refine op_store (n := 7) (j := 0) (us := [(.int .i64 (a : Int)), (.int .i64 ((a + B.half (b - a) : Nat) : Int))]) rfl rfl hH138 rfl T.sz143 rfl rfl rfl (by rfl) (fun w139 hH140 => ?_)
           refine ops_nil (blk_n ?_)
           have hH141 := hH140.front (n := 10) rfl
           have hH142 := hH141.front (n := 10) rfl
           have hH143 := hH142.front (n := 10) rfl
           have hH144 := hH143.front (n := 10) rfl
           have hH145 := hH144.front (n := 4) rfl
           have hH146 := hH145.front (n := 9) rfl
           have hH147 := hH146.front (n := 9) rfl
           have hH148 := hH147.front (n := 9) rfl
           have hH149 := (hH148.sub (List.Sublist.cons_cons _ (List.Sublist.cons_cons _ (List.Sublist.cons_cons _ (List.Sublist.cons_cons _ (List.Sublist.cons_cons _ (List.Sublist.cons_cons _ (List.Sublist.cons_cons _ (List.Sublist.cons_cons _ (List.nil_sublist _))))))))))
           exact ⟨_, ⟨_, ⟨a, (a + B.half (b - a)), j, ([B.root (B.sub l (a + B.half (b - a)) b)] ++ o), u132, lo134, hi135, rfl, ⟨hdw.1, (by rw [hdn, if_pos hlt, show a + B.half (b - a) - a = B.half (b - a) by omega]), by omega, by omega, (by rw [hpath, B.path_sub_left hb hm2 hlt, List.append_assoc])⟩⟩, rfl⟩, (Heap.recast (n := 3) hH149 rfl (rfl))⟩
       ·skip
        have hge : ¬ j < B.half (b - a) := by omega
        refine cond_t rfl (not_decide_t hc123) ?_
        refine region ?_
        refine ops_y hH122 rfl rfl (yv_loadA (cs := [(.int .i64 ((a + B.half (b - a) : Nat) : Int)), (.int .i64 (b : Int))]) T.agg143 rfl rfl (fun _ hw => Heap.cellsw hw (n := 1) rfl (k := 0) rfl)) ?_
        refine ops_y hH122 rfl rfl (yv_loadA (cs := [(.int .i64 (a : Int)), (.int .i64 ((a + B.half (b - a) : Nat) : Int))]) T.agg143 rfl rfl (fun _ hw => Heap.cellsw hw (n := 0) rfl (k := 0) rfl)) ?_
        refine op_store (n := 0) (j := 0) (us := [(.int .i64 ((a + B.half (b - a) : Nat) : Int)), (.int .i64 (b : Int))]) rfl rfl hH122 rfl T.sz143 rfl rfl rfl (by rfl) (fun w150 hH151 => ?_)
        refine op_store (n := 1) (j := 0) (us := [(.int .i64 (a : Int)), (.int .i64 ((a + B.half (b - a) : Nat) : Int))]) rfl rfl hH151 rfl T.sz143 rfl rfl rfl (by rfl) (fun w152 hH153 => ?_)
        refine ops_nil (thn_n (seq ?_))
        have hval : (find (((a : Nat) : Int), (((a + B.half (b - a)) : Nat) : Int)) m).getD 0 = B.root (B.sub l a (a + B.half (b - a))) := hW.at (by omega) hdw.1
        refine region_drawY (fun w' => Heap [bx b116 143 [(.int .i64 ((a + B.half (b - a) : Nat) : Int)), (.int .i64 (b : Int))], bx b113 143 [(.int .i64 (a : Int)), (.int .i64 ((a + B.half (b - a) : Nat) : Int))], recItem l26 { rc with state := .busy }, markItem D27, held lo20 hi21 w35, bx b7 143 [(.int .i64 (a : Int)), (.int .i64 (b : Int))], bx b4 39 [v_a], bx b1 77 [(.pointer (some ⟨db, 0, none⟩))], base w] w') [14] T.mixed (fun w154 hr155 => ?_)
        have hH156 := hH153.redrawn hr155
        refine any_takesY [0, 4, 7, 8, 10] (by kernel_rfl) (hH156.sub (List.Sublist.cons_cons _ (List.Sublist.cons_cons _ (List.Sublist.cons_cons _ (List.Sublist.cons_cons _ (List.Sublist.cons_cons _ (sC sR))))))) _ _ _ (by kernel_rfl) ?_
        refine qs_y rfl rfl (yv_load T.one77 rfl (fun _ hw => Heap.cellw hw (n := 7) rfl rfl)) ?_
        refine qs_y rfl rfl (yv_loadA (cs := [(.int .i64 (a : Int)), (.int .i64 ((a + B.half (b - a) : Nat) : Int))]) T.agg143 rfl rfl (fun _ hw => Heap.cellsw hw (n := 1) rfl (k := 0) rfl)) ?_
        refine qs_y rfl rfl (yv_load T.one39 rfl (fun _ hw => Heap.cellw hw (n := 6) rfl rfl)) ?_
        refine qs_y rfl rfl (yv_load T.one39 rfl (fun _ hw => Heap.cellw hw (n := 6) rfl rfl)) ?_
        refine qs_y rfl rfl (yv_load T.one39 rfl (fun _ hw => Heap.cellw hw (n := 6) rfl rfl)) ?_
        refine qs_nil ?_
        refine any_takesT [1, 2, 9, 11, 12] (by kernel_rfl)  _ _ _ (by kernel_rfl) ?_
        refine qs_y rfl rfl (yv_nilck rfl) ?_
        refine qs_y rfl rfl (yv_field T.f138_1 rfl) ?_
        refine qs_y rfl rfl (yv_len T.sl39 rfl (Heap.rdw T.el39_encW hH156 (n := 5) rfl).is) ?_
        refine qs_y rfl rfl (yv_len T.sl39 rfl (Heap.rdw T.el39_encW hH156 (n := 5) rfl).is) ?_
        refine qs_y rfl rfl (yv_cut3 T.sl39 rfl rfl rfl (Heap.rdw T.el39_encW hH156 (n := 5) rfl).is (by omega)) ?_
        refine qs_nil ?_
        refine any_takesY [3, 5] (by kernel_rfl) (hH156.sub (List.Sublist.cons_cons _ (List.Sublist.cons_cons _ (List.Sublist.cons_cons _ (List.Sublist.cons_cons _ (List.Sublist.cons_cons _ (sC sR))))))) _ _ _ (by kernel_rfl) ?_
        refine qs_y rfl rfl (yv_load T.one136 rfl (fun _ hw => bx_cell ((hd.now hw (n := 8) rfl).1) rfl)) ?_
        refine qs_y rfl rfl (yv_cast (by rw [hval]) (yv_lookup (k := (((a : Int), ((a + B.half (b - a) : Nat) : Int)) : Int × Int)) T.m136 rfl rfl (fun _ hw => (hm.now hw (n := 8) rfl)))) ?_
        refine qs_nil ?_
        refine any_allY [6] (by kernel_rfl) rfl ?_
        refine ⟨⟨_, rfl, ?_⟩, trivial⟩
        ·skip
         refine op_lit (us := [(0, (.int .u64 ((B.root (B.sub l a (a + B.half (b - a)))).toNat : Int)))]) T.el39_encW [B.root (B.sub l a (a + B.half (b - a)))] rfl (by decide) rfl (fun a ha => by simp [ha.ev (show ev _ (.tmp 49) = some _ from rfl)]) (fun w => by kernel_rfl) hH156 (fun u157 lo159 hi160 w158 hH161 => ?_)
         refine ops_nil ?_
         refine ⟨fun _ _ => (hH161.sub (sC (List.Sublist.cons_cons _ (List.Sublist.cons_cons _ (List.Sublist.cons_cons _ (List.Sublist.cons_cons _ (List.Sublist.cons_cons _ (sC sR)))))))), ?_⟩
         refine any_allY [13] (by kernel_rfl) rfl ?_
         refine ⟨⟨_, rfl, ?_⟩, trivial⟩
         ·skip
          refine op_append (n := 0) T.el39_encW rfl rfl rfl hH161 rfl (Rd.cut3n (Heap.rdw T.el39_encW hH161 (n := 6) rfl) ) (by first | omega | (simp only [List.length_append, List.length_cons, List.length_nil]; omega)) (fun u162 lo164 hi165 w163 hH166 => ?_)
          refine ops_nil ?_
          refine ⟨fun _ _ => (hH166.sub (sC (List.Sublist.cons_cons _ (List.Sublist.cons_cons _ (List.Sublist.cons_cons _ (List.Sublist.cons_cons _ (List.Sublist.cons_cons _ (sC sR)))))))), ?_⟩
          refine any_allY [14] (by kernel_rfl) rfl ?_
          refine ⟨⟨_, rfl, ?_⟩, trivial⟩
          ·skip
           refine op_store (n := 8) (j := 0) (us := [u162]) rfl rfl hH166 rfl T.sz39 (SliceIs.cells (Heap.rdw T.el39_encW hH166 (n := 0) rfl).is) rfl rfl (SliceIs.one (Heap.rdw T.el39_encW hH166 (n := 0) rfl).is) (fun w167 hH168 => ?_)
           refine ops_nil ?_
           refine ⟨(fun h => by cases h), ?_⟩
           refine any_doneY (by kernel_rfl) ?_
           refine thn_n (region ?_)
           refine ops_y hH168 rfl rfl (yv_loadA (cs := [(.int .i64 ((a + B.half (b - a) : Nat) : Int)), (.int .i64 (b : Int))]) T.agg143 rfl rfl (fun _ hw => Heap.cellsw hw (n := 1) rfl (k := 0) rfl)) ?_
           refine op_store (n := 7) (j := 0) (us := [(.int .i64 ((a + B.half (b - a) : Nat) : Int)), (.int .i64 (b : Int))]) rfl rfl hH168 rfl T.sz143 rfl rfl rfl (by rfl) (fun w169 hH170 => ?_)
           refine ops_nil (blk_n ?_)
           have hH171 := hH170.front (n := 10) rfl
           have hH172 := hH171.front (n := 10) rfl
           have hH173 := hH172.front (n := 10) rfl
           have hH174 := hH173.front (n := 10) rfl
           have hH175 := hH174.front (n := 4) rfl
           have hH176 := hH175.front (n := 9) rfl
           have hH177 := hH176.front (n := 9) rfl
           have hH178 := hH177.front (n := 9) rfl
           have hH179 := (hH178.sub (List.Sublist.cons_cons _ (List.Sublist.cons_cons _ (List.Sublist.cons_cons _ (List.Sublist.cons_cons _ (List.Sublist.cons_cons _ (List.Sublist.cons_cons _ (List.Sublist.cons_cons _ (List.Sublist.cons_cons _ (List.nil_sublist _))))))))))
           exact ⟨_, ⟨_, ⟨(a + B.half (b - a)), b, (j - B.half (b - a)), ([B.root (B.sub l a (a + B.half (b - a)))] ++ o), u162, lo164, hi165, rfl, ⟨hdw.2, (by rw [hdn, if_neg hge, show b - (a + B.half (b - a)) = b - a - B.half (b - a) by omega]), by omega, by omega, (by rw [hpath, B.path_sub_right hb hm2 hge, List.append_assoc])⟩⟩, rfl⟩, (Heap.recast (n := 3) hH179 rfl (rfl))⟩
 ·skip
  obtain ⟨a, b, j, o, v_a, lo_a, hi_a, rfl, ⟨hnd, hdrop, hj, hb, hpath⟩⟩ := hI
  have hH180 := hH32.perm (List.perm_append_comm (l₁ := [_]))
  refine blk_n (thn_n (seq (region ?_)))
  refine ops_y hH180 rfl rfl (yv_load T.one39 rfl (fun _ hw => Heap.cellw hw (n := 3) rfl rfl)) ?_
  refine oA hH180 rfl rfl (ops_nil (thn_n (ret ?_)))
  have hH181 := (hH180.sub (sC (List.Sublist.cons_cons _ (sC (sC (sC sR))))))
  refine fin_m (H := [ow lo_a hi_a 32 1 encW v_a o]) [D27] (hH181.front (n := 1) rfl) (fun w' hf => (res1 rfl (show RV _ _ _ (.tmp 4) _ from rfl))) (fun w' hf => ?_)
  have hba : b - a ≤ 1 := B.hv_stop hdrop (by rw [List.length_map]; exact Nat.le_refl _)
  rw [hpath, B.path_one (by rw [B.sub_length hb]; exact hba)]; exact Heap.own hf (n := 0) rfl
 ·skip
  exact hI.elim
end Go.Fip
