/- Joined texts: Wn, Wo, Wp, Wq, Wr, Ws. -/
import Derived.Test.YtfomadbnfcadnaaGreatDoorME
import Derived.Test.YtfomadbnfcadnaaGreatDoorMB
set_option linter.unusedVariables false
set_option linter.unusedSimpArgs false
set_option linter.unusedSectionVars false
set_option linter.unnecessarySimpa false
namespace Go.Fip
open Go.Proofs Go.RowKit
theorem c27 {v : Value} {l : List En} {w : World} (h0 : Rd encE 5 v l w) (hn : l.length ≤ 1000000) (hG : Gl w) {i : Int}  :
  Fn Tryz.prog 27 [(.agg #[v]), (.int .i64 i)].toArray w (fun u w => ∃ q, u = .tuple #[q, .int .i64 (B.pathR l i).2] ∧ Own 32 1 encW q (B.pathR l i).1 w) := by
 refine fn_of' (args := [(.agg #[v]), (.int .i64 i)]) Tryz.func27 rfl (ent Tryz.func27 (by kernel_rfl) rfl) rfl rfl (fun hH => ?_)
 refine seq (region ?_)
 refine op_box (us := [v]) rfl rfl rfl hH (fun b1 w2 hH3 => ?_)
 refine oA hH3 rfl rfl (oA hH3 rfl rfl (ops_nil (thn_n (seq ?_))))
 by_cases hc4 : B.ck l = 0
 ·skip
  have hc0 : B.ck l = 0 := ‹_›
  have hbk := B.ck_iff.1 hc0
  have hin0 := hbk.2.1
  have hl24 := hbk.1
  refine region ?_
  refine ops_y hH3 rfl rfl (yv_loadA (cs := [v]) T.agg24 rfl rfl (fun _ hw => Heap.cellsw hw (n := 0) rfl (k := 0) rfl)) ?_
  refine op_fn rfl rfl rfl hH3 (c56g (h0.now hH3 (n := 1) rfl) (by omega) (hG.now hH3 (n := 1) rfl) hc0) (fun u7 w5 lo8 hi9 hH6 hv10 => ?_)
  obtain ⟨dbD12, hu, hrowD12⟩ := hv10
  subst hu
  obtain ⟨mbD12, esD12, clD12, mD12, hentsD12, hwholeD12, hH11⟩ := Heap.fixMap hH6 (n := 0) rfl (fun w' h => by obtain ⟨rb', e, h⟩ := h; cases e; exact h)
  refine oM hH11 rfl rfl (ops_y hH11 rfl rfl (yv_extract rfl rfl) (ops_y hH11 rfl rfl (yv_extract rfl rfl) (oA hH11 rfl rfl (oA hH11 rfl rfl (ops_nil (thn_n (seq (block (seq ?_)))))))))
  refine region (oM hH11 rfl rfl ?_)
  refine ops_y hH11 rfl rfl (yv_neq rfl rfl) ?_
  refine oA hH11 rfl rfl (ops_nil (thn_n ?_))
  refine cond_f rfl rfl ?_
  refine seq (region ?_)
  refine ops_y hH11 rfl rfl (yv_field T.f24_0 rfl) ?_
  refine ops_y hH11 rfl rfl (yv_load T.one22 rfl (fun _ hw => Heap.cellw hw (n := 1) rfl rfl)) ?_
  refine ops_y hH11 rfl rfl (yv_len T.sl22 rfl (h0.now hH11 (n := 2) rfl).is) ?_
  refine ops_y hH11 rfl rfl (yv_sub rfl rfl (by omega)) ?_
  refine oM hH11 rfl rfl ?_
  refine op_lit (us := [(0, (.int .i64 i))]) T.el131_encI [i] rfl (by decide) rfl (fun a ha => by simp [ha.ev (show ev _ (.tmp 24) = some _ from rfl)]) (fun w => by kernel_rfl) hH11 (fun u13 lo15 hi16 w14 hH17 => ?_)
  refine op_fnV rfl rfl rfl hH17 (c57_1 (Heap.rdw T.el131_encI hH17 (n := 0) rfl)) (fun w18 hH19 => ?_)
  refine ops_y hH19 rfl rfl (yv_not rfl) ?_
  refine oA hH19 rfl rfl (ops_nil (thn_n ?_))
  by_cases hc20 : 0 ≤ i ∧ i ≤ (l.length : Int) - 1
  ·skip
   refine cond_f rfl (not_decide_n hc20) ?_
   refine skip (blk_n (thn_n (seq (region (oM hH19 rfl rfl ?_)))))
   refine ops_y hH19 rfl rfl (yv_cast (show i = (i.toNat : Int) by omega) (yv_move rfl)) ?_
   refine op_fn rfl rfl rfl hH19 (c71 (t := i.toNat) ⟨((show RowAt 138 dbD12 v mbD12 esD12 clD12 _ from hH19.get (n := 1) rfl).1), (h0.now hH19 (n := 3) rfl)⟩ ((hentsD12.mp (show RowAt 138 dbD12 v mbD12 esD12 clD12 _ from hH19.get (n := 1) rfl).2)) hwholeD12 (by omega) (by omega)) (fun u23 w21 lo24 hi25 hH22 hv26 => ?_)
   have hH27 := Heap.toOw hH22 (n := 0) rfl
   refine oA hH27 rfl rfl (ops_nil (thn_n (seq ?_)))
   have hpl := B.path_len (l := l) (i := i.toNat)
   refine region (oM hH27 rfl rfl ?_)
   refine ops_y hH27 rfl rfl (yv_len T.sl39 rfl (Heap.rdw T.el39_encW hH27 (n := 0) rfl).is) ?_
   refine op_make T.el39_encW (0 : UInt64) T.z39_encW rfl rfl rfl hH27 (by omega) (by omega) (fun u28 lo30 hi31 w29 hH32 => ?_)
   refine oA hH32 rfl rfl (ops_nil (thn_n (seq (region (oM hH32 rfl rfl (oM hH32 rfl rfl ?_))))))
   refine op_copy (n := 0) T.el39_encW rfl rfl rfl hH32 rfl (Heap.rdw T.el39_encW hH32 (n := 1) rfl) (by rw [List.length_replicate]; omega) (fun w33 hH34 => ?_)
   refine ops_nil (thn_n (seq (region (oM hH34 rfl rfl (oA hH34 rfl rfl (oA hH34 rfl rfl (ops_nil (thn_n (ret ?_)))))))))
   have hH35 := (hH34.sub (List.Sublist.cons_cons _ (sC (sC (sC (sC sR))))))
   refine fin (hH35.front (n := 1) rfl) (fun w' hf => (res2 rfl (show RV _ _ _ (.tmp 4) _ from rfl) (show RV _ _ _ (.tmp 5) _ from rfl))) (fun w' hf => ?_)
   first | (rw [B.pa1 hcn]; exact ⟨_, rfl, own_nil⟩) | (rw [B.pa2 hc0 (by omega)]; exact ⟨_, rfl, own_nil⟩) | (rw [B.pa3 hc0 (by omega)]; exact ⟨_, rfl, by have h := Heap.own hf (n := 0) rfl; simpa using h⟩)
  ·skip
   refine cond_t rfl (not_decide_t hc20) ?_
   refine seq (region (oA hH19 rfl rfl (oA hH19 rfl rfl (ops_nil (thn_n (ret (blk_r (thn_r ?_))))))))
   have hH36 := (hH19.sub (sC (sC (sC sR))))
   refine fin hH36 (fun w' hf => (res2 rfl (show RV _ _ _ (.tmp 4) _ from rfl) (show RV _ _ _ (.tmp 5) _ from rfl))) (fun w' hf => ?_)
   first | (rw [B.pa1 hcn]; exact ⟨_, rfl, own_nil⟩) | (rw [B.pa2 hc0 (by omega)]; exact ⟨_, rfl, own_nil⟩) | (rw [B.pa3 hc0 (by omega)]; exact ⟨_, rfl, by have h := Heap.own hf (n := 0) rfl; simpa using h⟩)
 ·skip
  have hcn : ¬ B.ck l = 0 := ‹_›
  refine region ?_
  refine ops_y hH3 rfl rfl (yv_loadA (cs := [v]) T.agg24 rfl rfl (fun _ hw => Heap.cellsw hw (n := 0) rfl (k := 0) rfl)) ?_
  refine op_fnV rfl rfl rfl hH3 (c56b (h0.now hH3 (n := 1) rfl) (by omega) hcn) (fun w37 hH38 => ?_)
  refine oM hH38 rfl rfl (ops_y hH38 rfl rfl (yv_extract rfl rfl) (ops_y hH38 rfl rfl (yv_extract rfl rfl) (oA hH38 rfl rfl (oA hH38 rfl rfl (ops_nil (thn_n (seq (block (seq ?_)))))))))
  refine region (oM hH38 rfl rfl ?_)
  refine ops_y hH38 rfl rfl (yv_neq rfl rfl) ?_
  refine oA hH38 rfl rfl (ops_nil (thn_n ?_))
  have hc39 : ¬ ((B.ck l) = 0) := hcn
  refine cond_t rfl (not_decide_t hc39) ?_
  refine seq (region (oM hH38 rfl rfl (oA hH38 rfl rfl (oA hH38 rfl rfl (ops_nil (thn_n (ret (blk_r (thn_r ?_)))))))))
  have hH40 := (hH38.sub (sC sR))
  refine fin hH40 (fun w' hf => (res2 rfl (show RV _ _ _ (.tmp 4) _ from rfl) (show RV _ _ _ (.tmp 5) _ from rfl))) (fun w' hf => ?_)
  first | (rw [B.pa1 hcn]; exact ⟨_, rfl, own_nil⟩) | (rw [B.pa2 hc0 (by omega)]; exact ⟨_, rfl, own_nil⟩) | (rw [B.pa3 hc0 (by omega)]; exact ⟨_, rfl, by have h := Heap.own hf (n := 0) rfl; simpa using h⟩)
theorem c46r {e : En} {v : Value} {p : List UInt64} {i n : Nat} {w : World} (he : B.isEn e) (h0 : Rd encW 1 v p w) (hp : p.length ≤ 1000) (h1 : i < n) (hn : n ≤ 64) (ih : ∀ {v1 : Value} {p1 : List UInt64} {i1 n1 : Nat} {w1 : World}, Rd encW 1 v1 p1 w1 → n1 < n → p1.length ≤ 1000 → i1 < n1 → n1 ≤ 64 → Fn Tryz.prog 46 #[.agg #[.int .i64 e.n, .int .i64 e.d, .int .i64 e.f, .int .i64 e.t, .int .i64 e.a], .int .i64 (i1 : Int), .int .i64 (n1 : Int), v1] w1 (fun u w => ∃ q, u = .tuple #[q, .bool (B.st e i1 n1 p1).2] ∧ Own 9 1 encT q (B.st e i1 n1 p1).1 w))  :
  Fn Tryz.prog 46 [(.agg #[(.int .i64 e.n), (.int .i64 e.d), (.int .i64 e.f), (.int .i64 e.t), (.int .i64 e.a)]), (.int .i64 (i : Int)), (.int .i64 (n : Int)), v].toArray w (fun u w => ∃ q, u = .tuple #[q, .bool (B.st e i n p).2] ∧ Own 9 1 encT q (B.st e i n p).1 w) := by
 refine fn_of' (args := [(.agg #[(.int .i64 e.n), (.int .i64 e.d), (.int .i64 e.f), (.int .i64 e.t), (.int .i64 e.a)]), (.int .i64 (i : Int)), (.int .i64 (n : Int)), v]) Tryz.func46 rfl (ent Tryz.func46 (by kernel_rfl) rfl) rfl rfl (fun hH => ?_)
 have htl := B.text_len he
 refine seq (region ?_)
 refine op_box (us := [(.int .i64 e.n), (.int .i64 e.d), (.int .i64 e.f), (.int .i64 e.t), (.int .i64 e.a)]) rfl rfl rfl hH (fun b1 w2 hH3 => ?_)
 refine oA hH3 rfl rfl (oA hH3 rfl rfl (ops_nil (thn_n (seq (region (oM hH3 rfl rfl ?_))))))
 refine ops_y hH3 rfl rfl (yv_len T.sl39 rfl (h0.now hH3 (n := 1) rfl).is) ?_
 refine oA hH3 rfl rfl (ops_nil (thn_n (seq (seq (region (oM hH3 rfl rfl ?_))))))
 refine ops_y hH3 rfl rfl (yv_eql rfl rfl) ?_
 refine ops_nil (thn_n ?_)
 by_cases hc4 : (n : Int) = 1
 ·skip
  have hn1 : n = 1 := by omega
  refine cond_t rfl (dT hc4) ?_
  refine seq (region ?_)
  refine ops_y hH3 rfl rfl (yv_loadA (cs := [(.int .i64 e.n), (.int .i64 e.d), (.int .i64 e.f), (.int .i64 e.t), (.int .i64 e.a)]) T.agg38 rfl rfl (fun _ hw => Heap.cellsw hw (n := 0) rfl (k := 0) rfl)) ?_
  refine op_fnV rfl rfl rfl hH3 (c95 (e := e) he) (fun w5 hH6 => ?_)
  refine op_lit (us := [(0, (str (B.leaf e)))]) T.el56_encT [(B.leaf e)] rfl (by decide) rfl (fun a ha => by simp [ha.ev (show ev _ (.tmp 21) = some _ from rfl)] <;> rfl) (fun w => by kernel_rfl) hH6 (fun u7 lo9 hi10 w8 hH11 => ?_)
  refine oM hH11 rfl rfl ?_
  refine ops_y hH11 rfl rfl (yv_eql rfl rfl) ?_
  refine oA hH11 rfl rfl (oA hH11 rfl rfl (ops_nil (thn_n (ret (thn_r ?_)))))
  have hH12 := (hH11.sub (List.Sublist.cons_cons _ (sC sR)))
  refine fin (hH12.front (n := 1) rfl) (fun w' hf => (res2 rfl (show RV _ _ _ (.tmp 8) _ from rfl) (show RV _ _ _ (.tmp 9) _ from rfl))) (fun w' hf => ?_)
  subst hn1
  rw [B.st_one]
  refine ⟨_, ?_, Heap.own hf (n := 0) rfl⟩
  exact congrArg (fun b => Value.tuple #[_, .bool b]) (decide_eq_decide.2 (by omega))
 ·skip
  refine cond_f rfl (dF hc4) ?_
  refine skip (thn_n (seq (seq (region (oM hH3 rfl rfl ?_)))))
  refine ops_y hH3 rfl rfl (yv_eql rfl rfl) ?_
  refine ops_nil (thn_n ?_)
  by_cases hc13 : (p.length : Int) = 0
  ·skip
   refine cond_t rfl (dT hc13) ?_
   refine seq (region (oA hH3 rfl rfl (oA hH3 rfl rfl (ops_nil (thn_n (ret (thn_r ?_)))))))
   have hH14 := (hH3.sub (sC sR))
   refine fin hH14 (fun w' hf => (res2 rfl (show RV _ _ _ (.tmp 8) _ from rfl) (show RV _ _ _ (.tmp 9) _ from rfl))) (fun w' hf => ?_)
   first | (rw [B.st_none (by omega) (by omega)]; exact ⟨_, rfl, own_nil⟩) | (rw [B.st_l0 (by omega) (by omega) hlt hk4]; exact ⟨_, rfl, own_nil⟩) | (rw [B.st_r0 (by omega) (by omega) hge hk5]; exact ⟨_, rfl, own_nil⟩) | (rw [B.st_l1 (by omega) (by omega) hlt hk4]; exact ⟨_, rfl, Heap.own hf (n := 0) rfl⟩) | (rw [B.st_r1 (by omega) (by omega) hge hk5]; exact ⟨_, rfl, Heap.own hf (n := 0) rfl⟩)
  ·skip
   refine cond_f rfl (dF hc13) ?_
   refine skip (thn_n (seq ?_))
   have hbh := B.half_lt (n := n) (by omega)
   have hpt : (p.take (p.length - 1)).length = p.length - 1 := by rw [List.length_take]; omega
   refine region (oM hH3 rfl rfl ?_)
   refine op_fnV rfl rfl rfl hH3 (c96 (by omega)) (fun w15 hH16 => ?_)
   refine oA hH16 rfl rfl (ops_nil (thn_n (seq (seq (region (oM hH16 rfl rfl (oM hH16 rfl rfl ?_)))))))
   refine ops_y hH16 rfl rfl (yv_lss rfl rfl) ?_
   refine ops_nil (thn_n ?_)
   by_cases hc17 : (i : Int) < (B.half n : Int)
   ·skip
    have hlt : i < B.half n := by omega
    refine cond_t rfl (dT hc17) ?_
    refine seq ?_
    refine region_draw (fun w' => Heap [bx b1 38 [(.int .i64 e.n), (.int .i64 e.d), (.int .i64 e.f), (.int .i64 e.t), (.int .i64 e.a)], base w] w') T.mixed (fun w18 hr19 => ?_)
    have hH20 := hH16.redrawn hr19
    refine any_takes [0, 1, 2, 3, 4, 5, 6] (by kernel_rfl) hH20 _ _ _ (by kernel_rfl) ?_
    refine qs_y rfl rfl (yv_loadA (cs := [(.int .i64 e.n), (.int .i64 e.d), (.int .i64 e.f), (.int .i64 e.t), (.int .i64 e.a)]) T.agg38 rfl rfl (fun _ hw => Heap.cellsw hw (n := 0) rfl (k := 0) rfl)) ?_
    refine qM rfl rfl rfl (qM rfl rfl rfl (qM rfl rfl rfl (qM rfl rfl rfl ?_)))
    refine qs_y rfl rfl (yv_cast (show (p.length : Int) - 1 = ((p.length - 1 : Nat) : Int) by omega) (yv_sub rfl rfl (by omega))) ?_
    refine qs_y rfl rfl (yv_cut_hi T.sl39 rfl rfl (h0.now hH20 (n := 1) rfl).is (by omega)) ?_
    refine qs_nil ?_
    refine any_all [7] (by kernel_rfl) rfl ?_
    refine ⟨⟨_, rfl, ?_⟩, trivial⟩
    ·skip
     refine op_fn rfl rfl rfl hH20 (ih (i1 := i) (n1 := (B.half n)) (p1 := (p.take (p.length - 1))) (Rd.upto (h0.now hH20 (n := 1) rfl) (hi := ((p.length - 1 : Nat) : Int).toNat) (by omega)) (by omega) (by rw [List.length_take]; omega) (by omega) (by omega)) (fun u23 w21 lo24 hi25 hH22 hv26 => ?_)
     obtain ⟨p28, hu, -⟩ := hv26
     subst hu
     have hH27 := Heap.tup2 hH22 (n := 0) rfl
     refine ops_nil ?_
     refine ⟨(hH27.sub (sC sR)), ?_⟩
     refine any_takes [8, 9, 10, 11, 12] (by kernel_rfl) (hH27.sub (sC sR)) _ _ _ (by kernel_rfl) ?_
     refine qM rfl rfl rfl ?_
     refine qs_y rfl rfl (yv_extract rfl rfl) ?_
     refine qs_y rfl rfl (yv_extract rfl rfl) ?_
     refine qs_y rfl rfl (yv_assign rfl) (qs_y rfl rfl (yv_assign rfl) (qs_nil ?_))
     refine any_done (by kernel_rfl) ?_
     refine thn_n (seq (seq (region (oM hH27 rfl rfl ?_))))
     refine ops_y hH27 rfl rfl (yv_not rfl) ?_
     refine ops_nil (thn_n ?_)
     by_cases hc29 : (!((B.st e i (B.half n) (p.take (p.length - 1))).2)) = true
     ·skip
      have hk4 : ¬ (B.st e i (B.half n) (p.take (p.length - 1))).2 = true := by simpa using hc29
      refine cond_t rfl hc29 ?_
      refine seq (region (oA hH27 rfl rfl (oA hH27 rfl rfl (ops_nil (thn_n (ret (thn_r (thn_r ?_))))))))
      have hH30 := (hH27.sub (sC (sC sR)))
      refine fin hH30 (fun w' hf => (res2 rfl (show RV _ _ _ (.tmp 8) _ from rfl) (show RV _ _ _ (.tmp 9) _ from rfl))) (fun w' hf => ?_)
      first | (rw [B.st_none (by omega) (by omega)]; exact ⟨_, rfl, own_nil⟩) | (rw [B.st_l0 (by omega) (by omega) hlt hk4]; exact ⟨_, rfl, own_nil⟩) | (rw [B.st_r0 (by omega) (by omega) hge hk5]; exact ⟨_, rfl, own_nil⟩) | (rw [B.st_l1 (by omega) (by omega) hlt hk4]; exact ⟨_, rfl, Heap.own hf (n := 0) rfl⟩) | (rw [B.st_r1 (by omega) (by omega) hge hk5]; exact ⟨_, rfl, Heap.own hf (n := 0) rfl⟩)
     ·skip
      have hk4 : (B.st e i (B.half n) (p.take (p.length - 1))).2 = true := by simpa using (Bool.eq_false_iff.2 hc29)
      have hlen := B.st_len (B.leaf_len htl) (B.half n) i (p.take (p.length - 1)) (by omega)
      have hlS := B.nth_len hlen (((B.st e i (B.half n) (p.take (p.length - 1))).1.length : Int) - 1)
      have hok2 := (B.st_ok (e := e) (B.half n) i (p.take (p.length - 1)) (by omega)).2 hk4
      refine cond_f rfl (Bool.eq_false_iff.2 hc29) ?_
      refine skip (thn_n (seq ?_))
      refine region_drawY (fun w' => Heap [bx b1 38 [(.int .i64 e.n), (.int .i64 e.d), (.int .i64 e.f), (.int .i64 e.t), (.int .i64 e.a)], base w] w') [15] T.mixed (fun w31 hr32 => ?_)
      have hH33 := hH27.redrawn hr32
      refine any_takesT [0, 1, 2, 3, 4, 5, 8, 9, 10, 11] (by kernel_rfl)  _ _ _ (by kernel_rfl) ?_
      refine qM rfl rfl rfl (qM rfl rfl rfl (qM rfl rfl rfl ?_))
      refine qs_y rfl rfl (yv_len T.sl56 rfl (Heap.rdw T.el56_encT hH33 (n := 0) rfl).is) ?_
      refine qs_y rfl rfl (yv_sub rfl rfl (by omega)) ?_
      refine qs_y rfl rfl (yv_index T.sl56 rfl rfl (Heap.rdw T.el56_encT hH33 (n := 0) rfl).is (by omega)) ?_
      refine qM rfl rfl rfl (qM rfl rfl rfl ?_)
      refine qs_y rfl rfl (yv_sub rfl rfl (by omega)) ?_
      refine qs_y rfl rfl (yv_index T.sl39 rfl rfl (h0.now hH33 (n := 2) rfl).is (by omega)) ?_
      refine qs_nil ?_
      refine any_takesY [12] (by kernel_rfl) (hH33.sub (sC sR)) _ _ _ (by kernel_rfl) ?_
      refine qs_y rfl rfl (yv_load T.one32 rfl (fun _ hw => Rd.at (h0.now hw (n := 1) rfl) (i := (p.length : Int) - 1) (by omega) (j := 0) rfl)) ?_
      refine qs_nil ?_
      refine any_allY [6] (by kernel_rfl) rfl ?_
      refine ⟨⟨_, rfl, ?_⟩, trivial⟩
      ·skip
       refine ops_y hH33 rfl rfl (yv_load T.one9 rfl (fun _ hw => Rd.at (Heap.rdw T.el56_encT hw (n := 0) rfl) (i := (((B.st e i (B.half n) (p.take (p.length - 1))).1).length : Int) - 1) (by omega) (j := 0) rfl)) ?_
       refine ops_nil ?_
       refine ⟨fun _ _ => (hH33.sub (sC sR)), ?_⟩
       refine any_allY [7] (by kernel_rfl) rfl ?_
       refine ⟨⟨_, rfl, ?_⟩, trivial⟩
       ·skip
        refine op_fnV rfl rfl rfl hH33 (c69 (l := (nth ((B.st e i (B.half n) (p.take (p.length - 1))).1) ((((B.st e i (B.half n) (p.take (p.length - 1))).1).length : Int) - 1))) (by first | omega | exact Nat.le_trans hlS (by decide))) (fun w34 hH35 => ?_)
        refine ops_nil ?_
        refine ⟨fun _ _ => (hH35.sub (sC sR)), ?_⟩
        refine any_allY [13] (by kernel_rfl) rfl ?_
        refine ⟨⟨_, rfl, ?_⟩, trivial⟩
        ·skip
         refine op_fnV rfl rfl rfl hH35 (c97 ) (fun w36 hH37 => ?_)
         refine ops_nil ?_
         refine ⟨fun _ _ => (hH37.sub (sC sR)), ?_⟩
         refine any_allY [14] (by kernel_rfl) rfl ?_
         refine ⟨⟨_, rfl, ?_⟩, trivial⟩
         ·skip
          refine op_lit (us := [(0, (str (B.both (B.sm (nth ((B.st e i (B.half n) (p.take (p.length - 1))).1) ((((B.st e i (B.half n) (p.take (p.length - 1))).1).length : Int) - 1))) (nth p ((p.length : Int) - 1)))))]) T.el56_encT [(B.both (B.sm (nth ((B.st e i (B.half n) (p.take (p.length - 1))).1) ((((B.st e i (B.half n) (p.take (p.length - 1))).1).length : Int) - 1))) (nth p ((p.length : Int) - 1)))] rfl (by decide) rfl (fun a ha => by simp [ha.ev (show ev _ (.tmp 58) = some _ from rfl)] <;> rfl) (fun w => by kernel_rfl) hH37 (fun u38 lo40 hi41 w39 hH42 => ?_)
          refine ops_nil ?_
          refine ⟨fun _ _ => (hH42.sub (sC (sC sR))), ?_⟩
          refine any_allY [15] (by kernel_rfl) rfl ?_
          refine ⟨⟨_, rfl, ?_⟩, trivial⟩
          ·skip
           refine op_append (n := 1) T.el56_encT rfl rfl rfl hH42 rfl (Heap.rdw T.el56_encT hH42 (n := 0) rfl) (by simp only [Int.toNat_natCast, List.length_cons, List.length_nil]; omega) (fun u43 lo45 hi46 w44 hH47 => ?_)
           refine ops_nil ?_
           refine ⟨(fun h => by cases h), ?_⟩
           refine any_takesT [16, 17] (by kernel_rfl)  _ _ _ (by kernel_rfl) ?_
           refine qs_y rfl rfl (yv_assign rfl) (qs_y rfl rfl (yv_assign rfl) (qs_nil ?_))
           refine any_doneY (by kernel_rfl) ?_
           refine thn_n (ret (thn_r ?_))
           have hH48 := (hH47.sub (sC (List.Sublist.cons_cons _ (sC sR))))
           refine fin (hH48.front (n := 1) rfl) (fun w' hf => (res2 rfl (show RV _ _ _ (.tmp 8) _ from rfl) (show RV _ _ _ (.tmp 9) _ from rfl))) (fun w' hf => ?_)
           first | (rw [B.st_none (by omega) (by omega)]; exact ⟨_, rfl, own_nil⟩) | (rw [B.st_l0 (by omega) (by omega) hlt hk4]; exact ⟨_, rfl, own_nil⟩) | (rw [B.st_r0 (by omega) (by omega) hge hk5]; exact ⟨_, rfl, own_nil⟩) | (rw [B.st_l1 (by omega) (by omega) hlt hk4]; exact ⟨_, rfl, Heap.own hf (n := 0) rfl⟩) | (rw [B.st_r1 (by omega) (by omega) hge hk5]; exact ⟨_, rfl, Heap.own hf (n := 0) rfl⟩)
   ·skip
    have hge : ¬ i < B.half n := by omega
    refine cond_f rfl (dF hc17) ?_
    refine skip (thn_n (seq ?_))
    refine region_draw (fun w' => Heap [bx b1 38 [(.int .i64 e.n), (.int .i64 e.d), (.int .i64 e.f), (.int .i64 e.t), (.int .i64 e.a)], base w] w') T.mixed (fun w49 hr50 => ?_)
    have hH51 := hH16.redrawn hr50
    refine any_takes [0, 1, 2, 3, 4, 5, 6, 7, 8, 9, 10] (by kernel_rfl) hH51 _ _ _ (by kernel_rfl) ?_
    refine qs_y rfl rfl (yv_loadA (cs := [(.int .i64 e.n), (.int .i64 e.d), (.int .i64 e.f), (.int .i64 e.t), (.int .i64 e.a)]) T.agg38 rfl rfl (fun _ hw => Heap.cellsw hw (n := 0) rfl (k := 0) rfl)) ?_
    refine qM rfl rfl rfl (qM rfl rfl rfl ?_)
    refine qs_y rfl rfl (yv_cast (show (i : Int) - (B.half n : Int) = ((i - B.half n : Nat) : Int) by omega) (yv_sub rfl rfl (by omega))) ?_
    refine qM rfl rfl rfl (qM rfl rfl rfl ?_)
    refine qs_y rfl rfl (yv_cast (show (n : Int) - (B.half n : Int) = ((n - B.half n : Nat) : Int) by omega) (yv_sub rfl rfl (by omega))) ?_
    refine qM rfl rfl rfl (qM rfl rfl rfl ?_)
    refine qs_y rfl rfl (yv_cast (show (p.length : Int) - 1 = ((p.length - 1 : Nat) : Int) by omega) (yv_sub rfl rfl (by omega))) ?_
    refine qs_y rfl rfl (yv_cut_hi T.sl39 rfl rfl (h0.now hH51 (n := 1) rfl).is (by omega)) ?_
    refine qs_nil ?_
    refine any_all [11] (by kernel_rfl) rfl ?_
    refine ⟨⟨_, rfl, ?_⟩, trivial⟩
    ·skip
     refine op_fn rfl rfl rfl hH51 (ih (i1 := (i - B.half n)) (n1 := (n - B.half n)) (p1 := (p.take (p.length - 1))) (Rd.upto (h0.now hH51 (n := 1) rfl) (hi := ((p.length - 1 : Nat) : Int).toNat) (by omega)) (by omega) (by rw [List.length_take]; omega) (by omega) (by omega)) (fun u54 w52 lo55 hi56 hH53 hv57 => ?_)
     obtain ⟨p59, hu, -⟩ := hv57
     subst hu
     have hH58 := Heap.tup2 hH53 (n := 0) rfl
     refine ops_nil ?_
     refine ⟨(hH58.sub (sC sR)), ?_⟩
     refine any_takes [12, 13, 14, 15, 16] (by kernel_rfl) (hH58.sub (sC sR)) _ _ _ (by kernel_rfl) ?_
     refine qM rfl rfl rfl ?_
     refine qs_y rfl rfl (yv_extract rfl rfl) ?_
     refine qs_y rfl rfl (yv_extract rfl rfl) ?_
     refine qs_y rfl rfl (yv_assign rfl) (qs_y rfl rfl (yv_assign rfl) (qs_nil ?_))
     refine any_done (by kernel_rfl) ?_
     refine thn_n (seq (seq (region (oM hH58 rfl rfl ?_))))
     refine ops_y hH58 rfl rfl (yv_not rfl) ?_
     refine ops_nil (thn_n ?_)
     by_cases hc60 : (!((B.st e (i - B.half n) (n - B.half n) (p.take (p.length - 1))).2)) = true
     ·skip
      have hk5 : ¬ (B.st e (i - B.half n) (n - B.half n) (p.take (p.length - 1))).2 = true := by simpa using hc60
      refine cond_t rfl hc60 ?_
      refine seq (region (oA hH58 rfl rfl (oA hH58 rfl rfl (ops_nil (thn_n (ret (thn_r ?_)))))))
      have hH61 := (hH58.sub (sC (sC sR)))
      refine fin hH61 (fun w' hf => (res2 rfl (show RV _ _ _ (.tmp 8) _ from rfl) (show RV _ _ _ (.tmp 9) _ from rfl))) (fun w' hf => ?_)
      first | (rw [B.st_none (by omega) (by omega)]; exact ⟨_, rfl, own_nil⟩) | (rw [B.st_l0 (by omega) (by omega) hlt hk4]; exact ⟨_, rfl, own_nil⟩) | (rw [B.st_r0 (by omega) (by omega) hge hk5]; exact ⟨_, rfl, own_nil⟩) | (rw [B.st_l1 (by omega) (by omega) hlt hk4]; exact ⟨_, rfl, Heap.own hf (n := 0) rfl⟩) | (rw [B.st_r1 (by omega) (by omega) hge hk5]; exact ⟨_, rfl, Heap.own hf (n := 0) rfl⟩)
     ·skip
      have hk5 : (B.st e (i - B.half n) (n - B.half n) (p.take (p.length - 1))).2 = true := by simpa using (Bool.eq_false_iff.2 hc60)
      have hlen := B.st_len (B.leaf_len htl) (n - B.half n) (i - B.half n) (p.take (p.length - 1)) (by omega)
      have hlS := B.nth_len hlen (((B.st e (i - B.half n) (n - B.half n) (p.take (p.length - 1))).1.length : Int) - 1)
      have hok2 := (B.st_ok (e := e) (n - B.half n) (i - B.half n) (p.take (p.length - 1)) (by omega)).2 hk5
      refine cond_f rfl (Bool.eq_false_iff.2 hc60) ?_
      refine skip (thn_n (seq ?_))
      refine region_drawY (fun w' => Heap [bx b1 38 [(.int .i64 e.n), (.int .i64 e.d), (.int .i64 e.f), (.int .i64 e.t), (.int .i64 e.a)], base w] w') [15] T.mixed (fun w62 hr63 => ?_)
      have hH64 := hH58.redrawn hr63
      refine any_takesT [0, 1, 2, 3, 4, 6, 7, 8, 9, 10] (by kernel_rfl)  _ _ _ (by kernel_rfl) ?_
      refine qM rfl rfl rfl (qM rfl rfl rfl (qM rfl rfl rfl ?_))
      refine qs_y rfl rfl (yv_sub rfl rfl (by omega)) ?_
      refine qs_y rfl rfl (yv_index T.sl39 rfl rfl (h0.now hH64 (n := 2) rfl).is (by omega)) ?_
      refine qM rfl rfl rfl (qM rfl rfl rfl ?_)
      refine qs_y rfl rfl (yv_len T.sl56 rfl (Heap.rdw T.el56_encT hH64 (n := 0) rfl).is) ?_
      refine qs_y rfl rfl (yv_sub rfl rfl (by omega)) ?_
      refine qs_y rfl rfl (yv_index T.sl56 rfl rfl (Heap.rdw T.el56_encT hH64 (n := 0) rfl).is (by omega)) ?_
      refine qs_nil ?_
      refine any_takesY [5] (by kernel_rfl) (hH64.sub (sC sR)) _ _ _ (by kernel_rfl) ?_
      refine qs_y rfl rfl (yv_load T.one32 rfl (fun _ hw => Rd.at (h0.now hw (n := 1) rfl) (i := (p.length : Int) - 1) (by omega) (j := 0) rfl)) ?_
      refine qs_nil ?_
      refine any_allY [11] (by kernel_rfl) rfl ?_
      refine ⟨⟨_, rfl, ?_⟩, trivial⟩
      ·skip
       refine ops_y hH64 rfl rfl (yv_load T.one9 rfl (fun _ hw => Rd.at (Heap.rdw T.el56_encT hw (n := 0) rfl) (i := (((B.st e (i - B.half n) (n - B.half n) (p.take (p.length - 1))).1).length : Int) - 1) (by omega) (j := 0) rfl)) ?_
       refine ops_nil ?_
       refine ⟨fun _ _ => (hH64.sub (sC sR)), ?_⟩
       refine any_allY [12] (by kernel_rfl) rfl ?_
       refine ⟨⟨_, rfl, ?_⟩, trivial⟩
       ·skip
        refine op_fnV rfl rfl rfl hH64 (c69 (l := (nth ((B.st e (i - B.half n) (n - B.half n) (p.take (p.length - 1))).1) ((((B.st e (i - B.half n) (n - B.half n) (p.take (p.length - 1))).1).length : Int) - 1))) (by first | omega | exact Nat.le_trans hlS (by decide))) (fun w65 hH66 => ?_)
        refine ops_nil ?_
        refine ⟨fun _ _ => (hH66.sub (sC sR)), ?_⟩
        refine any_allY [13] (by kernel_rfl) rfl ?_
        refine ⟨⟨_, rfl, ?_⟩, trivial⟩
        ·skip
         refine op_fnV rfl rfl rfl hH66 (c97 ) (fun w67 hH68 => ?_)
         refine ops_nil ?_
         refine ⟨fun _ _ => (hH68.sub (sC sR)), ?_⟩
         refine any_allY [14] (by kernel_rfl) rfl ?_
         refine ⟨⟨_, rfl, ?_⟩, trivial⟩
         ·skip
          refine op_lit (us := [(0, (str (B.both (nth p ((p.length : Int) - 1)) (B.sm (nth ((B.st e (i - B.half n) (n - B.half n) (p.take (p.length - 1))).1) ((((B.st e (i - B.half n) (n - B.half n) (p.take (p.length - 1))).1).length : Int) - 1))))))]) T.el56_encT [(B.both (nth p ((p.length : Int) - 1)) (B.sm (nth ((B.st e (i - B.half n) (n - B.half n) (p.take (p.length - 1))).1) ((((B.st e (i - B.half n) (n - B.half n) (p.take (p.length - 1))).1).length : Int) - 1))))] rfl (by decide) rfl (fun a ha => by simp [ha.ev (show ev _ (.tmp 91) = some _ from rfl)] <;> rfl) (fun w => by kernel_rfl) hH68 (fun u69 lo71 hi72 w70 hH73 => ?_)
          refine ops_nil ?_
          refine ⟨fun _ _ => (hH73.sub (sC (sC sR))), ?_⟩
          refine any_allY [15] (by kernel_rfl) rfl ?_
          refine ⟨⟨_, rfl, ?_⟩, trivial⟩
          ·skip
           refine op_append (n := 1) T.el56_encT rfl rfl rfl hH73 rfl (Heap.rdw T.el56_encT hH73 (n := 0) rfl) (by simp only [Int.toNat_natCast, List.length_cons, List.length_nil]; omega) (fun u74 lo76 hi77 w75 hH78 => ?_)
           refine ops_nil ?_
           refine ⟨(fun h => by cases h), ?_⟩
           refine any_takesT [16, 17] (by kernel_rfl)  _ _ _ (by kernel_rfl) ?_
           refine qs_y rfl rfl (yv_assign rfl) (qs_y rfl rfl (yv_assign rfl) (qs_nil ?_))
           refine any_doneY (by kernel_rfl) ?_
           refine thn_n (ret ?_)
           have hH79 := (hH78.sub (sC (List.Sublist.cons_cons _ (sC sR))))
           refine fin (hH79.front (n := 1) rfl) (fun w' hf => (res2 rfl (show RV _ _ _ (.tmp 8) _ from rfl) (show RV _ _ _ (.tmp 9) _ from rfl))) (fun w' hf => ?_)
           first | (rw [B.st_none (by omega) (by omega)]; exact ⟨_, rfl, own_nil⟩) | (rw [B.st_l0 (by omega) (by omega) hlt hk4]; exact ⟨_, rfl, own_nil⟩) | (rw [B.st_r0 (by omega) (by omega) hge hk5]; exact ⟨_, rfl, own_nil⟩) | (rw [B.st_l1 (by omega) (by omega) hlt hk4]; exact ⟨_, rfl, Heap.own hf (n := 0) rfl⟩) | (rw [B.st_r1 (by omega) (by omega) hge hk5]; exact ⟨_, rfl, Heap.own hf (n := 0) rfl⟩)
theorem c46 {e : En} {v : Value} {p : List UInt64} {i n : Nat} {w : World} (he : B.isEn e) (h0 : Rd encW 1 v p w) (hp : p.length ≤ 1000) (h1 : i < n) (hn : n ≤ 64) : Fn Tryz.prog 46 #[.agg #[.int .i64 e.n, .int .i64 e.d, .int .i64 e.f, .int .i64 e.t, .int .i64 e.a], .int .i64 (i : Int), .int .i64 (n : Int), v] w (fun u w => ∃ q, u = .tuple #[q, .bool (B.st e i n p).2] ∧ Own 9 1 encT q (B.st e i n p).1 w) := by
 induction hl : n using Nat.strongRecOn generalizing v p i n w with
 | _ m ih =>
  subst hl
  exact c46r he h0 hp h1 hn (fun k1 k2 k3 k4 k5 => ih _ k2 k1 k3 k4 k5 rfl)
end Go.Fip
namespace Go.Fip
open Go.Proofs Go.RowKit
theorem c31 {e : En} {v : Value} {p : List UInt64} {i n : Int} {r : UInt64} {w : World} (h0 : Rd encW 1 v p w) (hp : p.length ≤ 1000)  :
  Fn Tryz.prog 31 [(.agg #[(.int .i64 e.n), (.int .i64 e.d), (.int .i64 e.f), (.int .i64 e.t), (.int .i64 e.a)]), (.int .i64 i), (.int .i64 n), v, (.int .u64 (r.toNat : Int))].toArray w (fun u _ => u = .int .i64 (B.cp e i n p r)) := by
 refine fn_of' (args := [(.agg #[(.int .i64 e.n), (.int .i64 e.d), (.int .i64 e.f), (.int .i64 e.t), (.int .i64 e.a)]), (.int .i64 i), (.int .i64 n), v, (.int .u64 (r.toNat : Int))]) Tryz.func31 rfl (ent Tryz.func31 (by kernel_rfl) rfl) rfl rfl (fun hH => ?_)
 refine seq (region ?_)
 refine op_box (us := [(.int .i64 e.n), (.int .i64 e.d), (.int .i64 e.f), (.int .i64 e.t), (.int .i64 e.a)]) rfl rfl rfl hH (fun b1 w2 hH3 => ?_)
 refine oA hH3 rfl rfl (ops_nil (thn_n (seq (seq (region ?_)))))
 refine ops_y hH3 rfl rfl (yv_loadA (cs := [(.int .i64 e.n), (.int .i64 e.d), (.int .i64 e.f), (.int .i64 e.t), (.int .i64 e.a)]) T.agg38 rfl rfl (fun _ hw => Heap.cellsw hw (n := 0) rfl (k := 0) rfl)) ?_
 refine op_fnV rfl rfl rfl hH3 (c45 ) (fun w4 hH5 => ?_)
 refine ops_y hH5 rfl rfl (yv_neq rfl rfl) ?_
 refine ops_nil (thn_n ?_)
 by_cases hc6 : (B.ckE e) = 0
 ·skip
  have hE0 : B.ckE e = 0 := by omega
  have hisE := (B.ckE_iff.1 hE0).1
  have htl := B.text_len hisE
  refine cond_f rfl (not_decide_n hc6) ?_
  refine skip (thn_n (seq (seq (region (oM hH5 rfl rfl ?_)))))
  refine ops_y hH5 rfl rfl (yv_lss rfl rfl) ?_
  refine oM hH5 rfl rfl ?_
  by_cases hc7 : n < 1
  ·skip
   refine guard_no rfl rfl (dT hc7) rfl ?_
   refine guard_no rfl rfl (dT hc7) rfl ?_
   refine ops_y hH5 rfl rfl (yv_pick_t rfl (dT hc7) rfl) ?_
   refine ops_nil (thn_n ?_)
   refine cond_t rfl rfl ?_
   refine seq (region (oA hH5 rfl rfl (ops_nil (thn_n (ret (thn_r ?_))))))
   have hH8 := (hH5.sub (sC sR))
   refine fin hH8 (fun w' hf => (res1 rfl (show RV _ _ _ (.tmp 10) _ from rfl))) (fun w' hf => ?_)
   first | exact congrArg (Value.int .i64) (B.cp1 (by omega)).symm | exact congrArg (Value.int .i64) (B.cp2 hE0 (by omega)).symm | exact congrArg (Value.int .i64) (B.cp3 hE0 (by omega) (by omega)).symm | exact congrArg (Value.int .i64) (B.cp4 hE0 (by omega) (by omega) hbad).symm | exact congrArg (Value.int .i64) (B.cp5 hE0 (by omega) (by omega) hgood).symm
  ·skip
   refine guard_yes rfl rfl (dF hc7) ?_
   refine oM hH5 rfl rfl ?_
   refine guard_yes rfl rfl (dF hc7) ?_
   refine ops_y hH5 rfl rfl (yv_gtr rfl rfl) ?_
   refine ops_y hH5 rfl rfl (yv_pick_f rfl (dF hc7) rfl) ?_
   refine ops_nil (thn_n ?_)
   by_cases hc9 : 24 < n
   ·skip
    refine cond_t rfl (dT hc9) ?_
    refine seq (region (oA hH5 rfl rfl (ops_nil (thn_n (ret (thn_r ?_))))))
    have hH10 := (hH5.sub (sC sR))
    refine fin hH10 (fun w' hf => (res1 rfl (show RV _ _ _ (.tmp 10) _ from rfl))) (fun w' hf => ?_)
    first | exact congrArg (Value.int .i64) (B.cp1 (by omega)).symm | exact congrArg (Value.int .i64) (B.cp2 hE0 (by omega)).symm | exact congrArg (Value.int .i64) (B.cp3 hE0 (by omega) (by omega)).symm | exact congrArg (Value.int .i64) (B.cp4 hE0 (by omega) (by omega) hbad).symm | exact congrArg (Value.int .i64) (B.cp5 hE0 (by omega) (by omega) hgood).symm
   ·skip
    refine cond_f rfl (dF hc9) ?_
    refine skip (thn_n (seq (seq (region (oM hH5 rfl rfl ?_)))))
    refine ops_y hH5 rfl rfl (yv_lss rfl rfl) ?_
    refine oM hH5 rfl rfl ?_
    by_cases hc11 : i < 0
    ·skip
     refine guard_no rfl rfl (dT hc11) rfl ?_
     refine guard_no rfl rfl (dT hc11) rfl ?_
     refine guard_no rfl rfl (dT hc11) rfl ?_
     refine ops_y hH5 rfl rfl (yv_pick_t rfl (dT hc11) rfl) ?_
     refine ops_nil (thn_n ?_)
     refine cond_t rfl rfl ?_
     refine seq (region (oA hH5 rfl rfl (ops_nil (thn_n (ret (thn_r ?_))))))
     have hH12 := (hH5.sub (sC sR))
     refine fin hH12 (fun w' hf => (res1 rfl (show RV _ _ _ (.tmp 10) _ from rfl))) (fun w' hf => ?_)
     first | exact congrArg (Value.int .i64) (B.cp1 (by omega)).symm | exact congrArg (Value.int .i64) (B.cp2 hE0 (by omega)).symm | exact congrArg (Value.int .i64) (B.cp3 hE0 (by omega) (by omega)).symm | exact congrArg (Value.int .i64) (B.cp4 hE0 (by omega) (by omega) hbad).symm | exact congrArg (Value.int .i64) (B.cp5 hE0 (by omega) (by omega) hgood).symm
    ·skip
     refine guard_yes rfl rfl (dF hc11) ?_
     refine oM hH5 rfl rfl ?_
     refine guard_yes rfl rfl (dF hc11) ?_
     refine oM hH5 rfl rfl ?_
     refine guard_yes rfl rfl (dF hc11) ?_
     refine ops_y hH5 rfl rfl (yv_geq rfl rfl) ?_
     refine ops_y hH5 rfl rfl (yv_pick_f rfl (dF hc11) rfl) ?_
     refine ops_nil (thn_n ?_)
     by_cases hc13 : n ≤ i
     ·skip
      refine cond_t rfl (dT hc13) ?_
      refine seq (region (oA hH5 rfl rfl (ops_nil (thn_n (ret (thn_r ?_))))))
      have hH14 := (hH5.sub (sC sR))
      refine fin hH14 (fun w' hf => (res1 rfl (show RV _ _ _ (.tmp 10) _ from rfl))) (fun w' hf => ?_)
      first | exact congrArg (Value.int .i64) (B.cp1 (by omega)).symm | exact congrArg (Value.int .i64) (B.cp2 hE0 (by omega)).symm | exact congrArg (Value.int .i64) (B.cp3 hE0 (by omega) (by omega)).symm | exact congrArg (Value.int .i64) (B.cp4 hE0 (by omega) (by omega) hbad).symm | exact congrArg (Value.int .i64) (B.cp5 hE0 (by omega) (by omega) hgood).symm
     ·skip
      refine cond_f rfl (dF hc13) ?_
      refine skip (thn_n (seq (region ?_)))
      refine ops_y hH5 rfl rfl (yv_loadA (cs := [(.int .i64 e.n), (.int .i64 e.d), (.int .i64 e.f), (.int .i64 e.t), (.int .i64 e.a)]) T.agg38 rfl rfl (fun _ hw => Heap.cellsw hw (n := 0) rfl (k := 0) rfl)) ?_
      refine ops_y hH5 rfl rfl (yv_cast (show i = (i.toNat : Int) by omega) (yv_move rfl)) ?_
      refine ops_y hH5 rfl rfl (yv_cast (show n = (n.toNat : Int) by omega) (yv_move rfl)) ?_
      refine oM hH5 rfl rfl ?_
      refine op_fn rfl rfl rfl hH5 (c46 (e := e) (i := i.toNat) (n := n.toNat) (p := p) hisE (h0.now hH5 (n := 1) rfl) (by omega) (by omega) (by omega)) (fun u17 w15 lo18 hi19 hH16 hv20 => ?_)
      obtain ⟨p22, hu, -⟩ := hv20
      subst hu
      have hH21 := Heap.tup2 hH16 (n := 0) rfl
      refine oM hH21 rfl rfl (ops_y hH21 rfl rfl (yv_extract rfl rfl) (ops_y hH21 rfl rfl (yv_extract rfl rfl) (oA hH21 rfl rfl (oA hH21 rfl rfl (ops_nil (thn_n (seq (seq ?_))))))))
      have hlen := B.st_len (B.leaf_len htl) n.toNat i.toNat p (by omega)
      have hlS := B.nth_len hlen (((B.st e i.toNat n.toNat p).1.length : Int) - 1)
      have hsk := B.st_ok (e := e) n.toNat i.toNat p (by omega)
      refine region (oM hH21 rfl rfl ?_)
      refine ops_y hH21 rfl rfl (yv_not rfl) ?_
      refine oM hH21 rfl rfl ?_
      by_cases hc23 : (!((B.st e i.toNat n.toNat p).2)) = true
      ·skip
       have hbad : ¬ ((B.st e i.toNat n.toNat p).2 = true ∧ B.sm (B.lastS (B.st e i.toNat n.toNat p).1) = r) := fun h => by have h2 := hc23; rw [h.1] at h2; cases h2
       refine guard_no rfl rfl hc23 rfl ?_
       refine guard_no rfl rfl hc23 rfl ?_
       refine guard_no rfl rfl hc23 rfl ?_
       refine guard_no rfl rfl hc23 rfl ?_
       refine guard_no rfl rfl hc23 rfl ?_
       refine guard_no rfl rfl hc23 rfl ?_
       refine guard_no rfl rfl hc23 rfl ?_
       refine guard_no rfl rfl hc23 rfl ?_
       refine guard_no rfl rfl hc23 rfl ?_
       refine ops_y hH21 rfl rfl (yv_pick_t rfl hc23 rfl) ?_
       refine ops_nil (thn_n ?_)
       refine cond_t rfl rfl ?_
       refine seq (region (oA hH21 rfl rfl (ops_nil (thn_n (ret (thn_r ?_))))))
       have hH24 := (hH21.sub (sC (sC sR)))
       refine fin hH24 (fun w' hf => (res1 rfl (show RV _ _ _ (.tmp 10) _ from rfl))) (fun w' hf => ?_)
       first | exact congrArg (Value.int .i64) (B.cp1 (by omega)).symm | exact congrArg (Value.int .i64) (B.cp2 hE0 (by omega)).symm | exact congrArg (Value.int .i64) (B.cp3 hE0 (by omega) (by omega)).symm | exact congrArg (Value.int .i64) (B.cp4 hE0 (by omega) (by omega) hbad).symm | exact congrArg (Value.int .i64) (B.cp5 hE0 (by omega) (by omega) hgood).symm
      ·skip
       have hok : (B.st e i.toNat n.toNat p).2 = true := by simpa using (Bool.eq_false_iff.2 hc23)
       have hok2 := hsk.2 hok
       refine guard_yes rfl rfl (Bool.eq_false_iff.2 hc23) ?_
       refine oM hH21 rfl rfl ?_
       refine guard_yes rfl rfl (Bool.eq_false_iff.2 hc23) ?_
       refine oM hH21 rfl rfl ?_
       refine guard_yes rfl rfl (Bool.eq_false_iff.2 hc23) ?_
       refine ops_y hH21 rfl rfl (yv_len T.sl56 rfl (Heap.rdw T.el56_encT hH21 (n := 0) rfl).is) ?_
       refine guard_yes rfl rfl (Bool.eq_false_iff.2 hc23) ?_
       refine ops_y hH21 rfl rfl (yv_sub rfl rfl (by omega)) ?_
       refine guard_yes rfl rfl (Bool.eq_false_iff.2 hc23) ?_
       refine ops_y hH21 rfl rfl (yv_index T.sl56 rfl rfl (Heap.rdw T.el56_encT hH21 (n := 0) rfl).is (by omega)) ?_
       refine guard_yes rfl rfl (Bool.eq_false_iff.2 hc23) ?_
       refine ops_y hH21 rfl rfl (yv_load T.one9 rfl (fun _ hw => Rd.at (Heap.rdw T.el56_encT hw (n := 0) rfl) (i := (((B.st e i.toNat n.toNat p).1).length : Int) - 1) (by omega) (j := 0) rfl)) ?_
       refine guard_yes rfl rfl (Bool.eq_false_iff.2 hc23) ?_
       refine op_fnV rfl rfl rfl hH21 (c69 (l := (nth ((B.st e i.toNat n.toNat p).1) ((((B.st e i.toNat n.toNat p).1).length : Int) - 1))) (by first | omega | exact Nat.le_trans hlS (by decide))) (fun w25 hH26 => ?_)
       refine guard_yes rfl rfl (Bool.eq_false_iff.2 hc23) ?_
       refine oM hH26 rfl rfl ?_
       refine guard_yes rfl rfl (Bool.eq_false_iff.2 hc23) ?_
       refine ops_y hH26 rfl rfl (yv_neq rfl rfl) ?_
       refine ops_y hH26 rfl rfl (yv_pick_f rfl (Bool.eq_false_iff.2 hc23) rfl) ?_
       refine ops_nil (thn_n ?_)
       by_cases hc27 : ((B.sm (nth ((B.st e i.toNat n.toNat p).1) ((((B.st e i.toNat n.toNat p).1).length : Int) - 1))).toNat : Int) = (r.toNat : Int)
       ·skip
        have hgood : (B.st e i.toNat n.toNat p).2 = true ∧ B.sm (B.lastS (B.st e i.toNat n.toNat p).1) = r := ⟨hok, toNatI.1 (by first | assumption | (unfold B.lastS; omega))⟩
        refine cond_f rfl (not_decide_n hc27) ?_
        refine skip (thn_n (seq (region (oA hH26 rfl rfl (ops_nil (thn_n (ret ?_)))))))
        have hH28 := (hH26.sub (sC (sC sR)))
        refine fin hH28 (fun w' hf => (res1 rfl (show RV _ _ _ (.tmp 10) _ from rfl))) (fun w' hf => ?_)
        first | exact congrArg (Value.int .i64) (B.cp1 (by omega)).symm | exact congrArg (Value.int .i64) (B.cp2 hE0 (by omega)).symm | exact congrArg (Value.int .i64) (B.cp3 hE0 (by omega) (by omega)).symm | exact congrArg (Value.int .i64) (B.cp4 hE0 (by omega) (by omega) hbad).symm | exact congrArg (Value.int .i64) (B.cp5 hE0 (by omega) (by omega) hgood).symm
       ·skip
        have hbad : ¬ ((B.st e i.toNat n.toNat p).2 = true ∧ B.sm (B.lastS (B.st e i.toNat n.toNat p).1) = r) := fun h => absurd (toNatI.2 h.2) (by first | assumption | (unfold B.lastS; omega))
        refine cond_t rfl (not_decide_t hc27) ?_
        refine seq (region (oA hH26 rfl rfl (ops_nil (thn_n (ret (thn_r ?_))))))
        have hH29 := (hH26.sub (sC (sC sR)))
        refine fin hH29 (fun w' hf => (res1 rfl (show RV _ _ _ (.tmp 10) _ from rfl))) (fun w' hf => ?_)
        first | exact congrArg (Value.int .i64) (B.cp1 (by omega)).symm | exact congrArg (Value.int .i64) (B.cp2 hE0 (by omega)).symm | exact congrArg (Value.int .i64) (B.cp3 hE0 (by omega) (by omega)).symm | exact congrArg (Value.int .i64) (B.cp4 hE0 (by omega) (by omega) hbad).symm | exact congrArg (Value.int .i64) (B.cp5 hE0 (by omega) (by omega) hgood).symm
 ·skip
  refine cond_t rfl (not_decide_t hc6) ?_
  refine seq (region ?_)
  refine ops_y hH5 rfl rfl (yv_loadA (cs := [(.int .i64 e.n), (.int .i64 e.d), (.int .i64 e.f), (.int .i64 e.t), (.int .i64 e.a)]) T.agg38 rfl rfl (fun _ hw => Heap.cellsw hw (n := 0) rfl (k := 0) rfl)) ?_
  refine op_fnV rfl rfl rfl hH5 (c45 ) (fun w30 hH31 => ?_)
  refine oA hH31 rfl rfl (ops_nil (thn_n (ret (thn_r ?_))))
  have hH32 := (hH31.sub (sC sR))
  refine fin hH32 (fun w' hf => (res1 rfl (show RV _ _ _ (.tmp 10) _ from rfl))) (fun w' hf => ?_)
  first | exact congrArg (Value.int .i64) (B.cp1 (by omega)).symm | exact congrArg (Value.int .i64) (B.cp2 hE0 (by omega)).symm | exact congrArg (Value.int .i64) (B.cp3 hE0 (by omega) (by omega)).symm | exact congrArg (Value.int .i64) (B.cp4 hE0 (by omega) (by omega) hbad).symm | exact congrArg (Value.int .i64) (B.cp5 hE0 (by omega) (by omega) hgood).symm
theorem c30 {e : En} {v : Value} {p : List UInt64} {i n : Int} {r : UInt64} {w : World} (hG : Gl w) (h0 : Rd encW 1 v p w) (hp : p.length ≤ 1000)  :
  Fn Tryz.prog 30 [(.agg #[(.int .i64 e.n), (.int .i64 e.d), (.int .i64 e.f), (.int .i64 e.t), (.int .i64 e.a)]), (.int .i64 i), (.int .i64 n), v, (.int .u64 (r.toNat : Int))].toArray w (fun u _ => u = .int .i64 (B.cp e i n p r)) := by
 refine fn_of' (args := [(.agg #[(.int .i64 e.n), (.int .i64 e.d), (.int .i64 e.f), (.int .i64 e.t), (.int .i64 e.a)]), (.int .i64 i), (.int .i64 n), v, (.int .u64 (r.toNat : Int))]) Tryz.func30 rfl (ent Tryz.func30 (by kernel_rfl) rfl) rfl rfl (fun hH => ?_)
 refine seq (region ?_)
 refine op_box (us := [(.int .i64 e.n), (.int .i64 e.d), (.int .i64 e.f), (.int .i64 e.t), (.int .i64 e.a)]) rfl rfl rfl hH (fun b1 w2 hH3 => ?_)
 refine oA hH3 rfl rfl (ops_nil (thn_n (seq (block (seq (region ?_))))))
 refine ops_y hH3 rfl rfl (yv_loadA (cs := [(.int .i64 e.n), (.int .i64 e.d), (.int .i64 e.f), (.int .i64 e.t), (.int .i64 e.a)]) T.agg38 rfl rfl (fun _ hw => Heap.cellsw hw (n := 0) rfl (k := 0) rfl)) ?_
 refine op_fnV rfl rfl rfl hH3 (c61 ) (fun w4 hH5 => ?_)
 refine oA hH5 rfl rfl (ops_nil (thn_n ?_))
 by_cases hc6 : ¬ B.isEn e
 ·skip
  have hE3 : B.ckE e = 3 := B.ckE3 ‹_›
  refine cond_t rfl (dT hc6) ?_
  refine seq (region (oA hH5 rfl rfl (ops_nil (thn_n (ret (blk_r (thn_r ?_)))))))
  have hH7 := (hH5.sub (sC sR))
  refine fin hH7 (fun w' hf => (res1 rfl (show RV _ _ _ (.tmp 10) _ from rfl))) (fun w' hf => ?_)
  first | exact congrArg (Value.int .i64) ((B.cp1 (by omega)).trans hE3).symm | exact congrArg (Value.int .i64) ((B.cp1 (by omega)).trans hE2).symm | exact congrArg (Value.int .i64) (B.cp1 (by omega)).symm | exact congrArg (Value.int .i64) (B.cp2 hE0 (by omega)).symm | exact congrArg (Value.int .i64) (B.cp3 hE0 (by omega) (by omega)).symm | exact congrArg (Value.int .i64) (B.cp4 hE0 (by omega) (by omega) hbad).symm | exact congrArg (Value.int .i64) (B.cp5 hE0 (by omega) (by omega) hgood).symm
 ·skip
  have hisE : B.isEn e := Decidable.not_not.1 ‹_›
  have htl := B.text_len hisE
  refine cond_f rfl (dF hc6) ?_
  refine seq (region ?_)
  refine ops_y hH5 rfl rfl (yv_loadA (cs := [(.int .i64 e.n), (.int .i64 e.d), (.int .i64 e.f), (.int .i64 e.t), (.int .i64 e.a)]) T.agg38 rfl rfl (fun _ hw => Heap.cellsw hw (n := 0) rfl (k := 0) rfl)) ?_
  refine op_fnV rfl rfl rfl hH5 (c62 ) (fun w8 hH9 => ?_)
  refine oA hH9 rfl rfl (ops_nil (thn_n ?_))
  by_cases hc10 : e.f = e.t
  ·skip
   have hE2 : B.ckE e = 2 := B.ckE2 hisE ‹_›
   refine cond_t rfl (dT hc10) ?_
   refine seq (region (oA hH9 rfl rfl (ops_nil (thn_n (ret (blk_r (thn_r ?_)))))))
   have hH11 := (hH9.sub (sC sR))
   refine fin hH11 (fun w' hf => (res1 rfl (show RV _ _ _ (.tmp 10) _ from rfl))) (fun w' hf => ?_)
   first | exact congrArg (Value.int .i64) ((B.cp1 (by omega)).trans hE3).symm | exact congrArg (Value.int .i64) ((B.cp1 (by omega)).trans hE2).symm | exact congrArg (Value.int .i64) (B.cp1 (by omega)).symm | exact congrArg (Value.int .i64) (B.cp2 hE0 (by omega)).symm | exact congrArg (Value.int .i64) (B.cp3 hE0 (by omega) (by omega)).symm | exact congrArg (Value.int .i64) (B.cp4 hE0 (by omega) (by omega) hbad).symm | exact congrArg (Value.int .i64) (B.cp5 hE0 (by omega) (by omega) hgood).symm
  ·skip
   have hE0 : B.ckE e = 0 := B.ckE_iff.2 ⟨hisE, ‹_›⟩
   refine cond_f rfl (dF hc10) ?_
   refine seq (region (oM hH9 rfl rfl ?_))
   refine op_lit (us := [(0, (.int .i64 n))]) T.el131_encI [n] rfl (by decide) rfl (fun a ha => by simp [ha.ev (show ev _ (.tmp 22) = some _ from rfl)]) (fun w => by kernel_rfl) hH9 (fun u12 lo14 hi15 w13 hH16 => ?_)
   refine op_fnV rfl rfl rfl hH16 (c57_1 (Heap.rdw T.el131_encI hH16 (n := 0) rfl)) (fun w17 hH18 => ?_)
   refine ops_y hH18 rfl rfl (yv_not rfl) ?_
   refine oA hH18 rfl rfl (ops_nil (thn_n ?_))
   by_cases hc19 : 1 ≤ n ∧ n ≤ 24
   ·skip
    refine cond_f rfl (not_decide_n hc19) ?_
    refine seq (region (oM hH18 rfl rfl ?_))
    refine ops_y hH18 rfl rfl (yv_sub rfl rfl (by omega)) ?_
    refine oM hH18 rfl rfl ?_
    refine op_lit (us := [(0, (.int .i64 i))]) T.el131_encI [i] rfl (by decide) rfl (fun a ha => by simp [ha.ev (show ev _ (.tmp 29) = some _ from rfl)]) (fun w => by kernel_rfl) hH18 (fun u20 lo22 hi23 w21 hH24 => ?_)
    refine op_fnV rfl rfl rfl hH24 (c57_1 (Heap.rdw T.el131_encI hH24 (n := 0) rfl)) (fun w25 hH26 => ?_)
    refine ops_y hH26 rfl rfl (yv_not rfl) ?_
    refine oA hH26 rfl rfl (ops_nil (thn_n ?_))
    by_cases hc27 : 0 ≤ i ∧ i ≤ n - 1
    ·skip
     refine cond_f rfl (not_decide_n hc27) ?_
     refine skip (blk_n (thn_n (seq (region ?_))))
     refine ops_y hH26 rfl rfl (yv_loadA (cs := [(.int .i64 e.n), (.int .i64 e.d), (.int .i64 e.f), (.int .i64 e.t), (.int .i64 e.a)]) T.agg38 rfl rfl (fun _ hw => Heap.cellsw hw (n := 2) rfl (k := 0) rfl)) ?_
     refine op_fnV rfl rfl rfl hH26 (c73 (e := e) (hG.now hH26 (n := 3) rfl) hisE) (fun w28 hH29 => ?_)
     refine ops_y hH29 rfl rfl (yv_cat rfl rfl (by first | omega | (simp only [List.length_append, List.length_cons, List.length_nil]; omega))) ?_
     refine op_fnV rfl rfl rfl hH29 (c68 (by first | omega | (simp only [List.length_append, List.length_cons, List.length_nil]; omega))) (fun w30 hH31 => ?_)
     refine oA hH31 rfl rfl (ops_nil (thn_n (seq (region ?_))))
     refine ops_y hH31 rfl rfl (yv_cast (show i = (i.toNat : Int) by omega) (yv_move rfl)) ?_
     refine ops_y hH31 rfl rfl (yv_cast (show n = (n.toNat : Int) by omega) (yv_move rfl)) ?_
     refine op_fn rfl rfl rfl hH31 (c75 (i := (i.toNat : Int)) (n := (n.toNat : Int))) (fun u39 w37 lo40 hi41 hH38 hv42 => ?_)
     obtain ⟨c32, c33, hu, hne34, -⟩ := hv42
     subst hu
     obtain ⟨hH43, hbA35, hbB36⟩ := Heap.fixTwo (c1 := c32) (c2 := c33) (t1 := 3) (t2 := 3) (x := .int .i64 (n.toNat : Int)) (y := .int .i64 (i.toNat : Int)) hH38 (n := 0) rfl (fun w' h => by obtain ⟨c1', c2', e, _, h⟩ := h; cases e; exact h)
     refine op_fnO (n := 0) rfl rfl rfl hH43 rfl (c74 (l := (B.hv i.toNat n.toNat)) (it111 (c1 := c32) (c2 := c33) (lo := lo40) (hi := hi41) (n := n.toNat) (i := i.toNat) hne34 hbA35 hbB36 (by omega) (by omega)) (hH43.okAt (n := 0) rfl) (by have := B.hv_length (i := i.toNat) n.toNat; omega)) (fun u46 w44 lo47 hi48 hH45 hv49 => ?_)
     have hH50 := Heap.toOw hH45 (n := 0) rfl
     refine oA hH50 rfl rfl (ops_nil (thn_n (seq (seq ?_))))
     have hvl := B.hv_length (i := i.toNat) n.toNat
     have hsk := B.st_ok (e := e) n.toNat i.toNat p (by omega)
     refine region (oM hH50 rfl rfl ?_)
     refine ops_y hH50 rfl rfl (yv_len T.sl95 rfl (Heap.rdw T.el95_encBo hH50 (n := 0) rfl).is) ?_
     refine oM hH50 rfl rfl ?_
     refine ops_y hH50 rfl rfl (yv_len T.sl39 rfl (h0.now hH50 (n := 5) rfl).is) ?_
     refine ops_y hH50 rfl rfl (yv_neq rfl rfl) ?_
     refine ops_nil (thn_n ?_)
     by_cases hc51 : ((B.hv i.toNat n.toNat).length : Int) = (p.length : Int)
     ·skip
      have hpl : p.length = (B.hv i.toNat n.toNat).length := by omega
      have hstu := B.st_up (e := e) n.toNat i.toNat p (by omega) hpl
      refine cond_f rfl (not_decide_n hc51) ?_
      refine skip (thn_n (seq (seq (region (oM hH50 rfl rfl ?_)))))
      refine ops_y hH50 rfl rfl (yv_len T.sl39 rfl (h0.now hH50 (n := 5) rfl).is) ?_
      refine oM hH50 rfl rfl (ops_nil (thn_n (block ?_)))
      refine loop (S := Nat) (fun k => [(48, (.int .i64 (k : Int))), (11, (.int .u64 ((B.upTo (B.sm (B.leaf e)) p (B.hv i.toNat n.toNat) k).toNat : Int))), (4, (.int .u64 (r.toNat : Int))), (10, (.int .i64 0)), (12, u46), (46, v), (47, (.int .i64 (p.length : Int)))]) (fun k w1 => Heap [ow lo47 hi48 4 1 encBo u46 (B.hv i.toNat n.toNat), spare lo40 hi41, ow lo22 hi23 2 1 encI u20 [i], ow lo14 hi15 2 1 encI u12 [n], bx b1 38 [(.int .i64 e.n), (.int .i64 e.d), (.int .i64 e.f), (.int .i64 e.t), (.int .i64 e.a)], base w] w1 ∧ k ≤ p.length) (fun k => p.length - k) (0) (uC rfl (uC rfl (uC rfl (uC rfl (uC rfl (uC rfl (uC rfl (Sub.nil _)))))))) ?_ ?_
      ·exact ⟨hH50, by omega⟩
      ·rintro k w52 ⟨hH53, hk⟩
       show Holds _ _ _ _ _ [(48, (.int .i64 (k : Int))), (11, (.int .u64 ((B.upTo (B.sm (B.leaf e)) p (B.hv i.toNat n.toNat) k).toNat : Int))), (4, (.int .u64 (r.toNat : Int))), (10, (.int .i64 0)), (12, u46), (46, v), (47, (.int .i64 (p.length : Int)))] _ _
       refine seq (region ?_)
       refine ops_y hH53 rfl rfl (yv_lss rfl rfl) ?_
       refine ops_nil (thn_n (seq ?_))
       by_cases hc54 : (k : Int) < (p.length : Int)
       ·skip
        refine cond_t rfl (dT hc54) ?_
        refine skip (thn_n (seq (block (seq (region (oM hH53 rfl rfl ?_))))))
        refine ops_y hH53 rfl rfl (yv_index T.sl39 rfl rfl (h0.now hH53 (n := 5) rfl).is (by omega)) ?_
        refine ops_y hH53 rfl rfl (yv_load T.one32 rfl (fun _ hw => Rd.at (h0.now hw (n := 5) rfl) (i := (k : Int)) (by omega) (j := 0) rfl)) ?_
        refine oA hH53 rfl rfl (oA hH53 rfl rfl (ops_nil (thn_n (seq (region (oM hH53 rfl rfl (oM hH53 rfl rfl ?_)))))))
        refine ops_y hH53 rfl rfl (yv_len T.sl95 rfl (Heap.rdw T.el95_encBo hH53 (n := 0) rfl).is) ?_
        refine ops_y hH53 rfl rfl (yv_sub rfl rfl (by omega)) ?_
        refine oM hH53 rfl rfl ?_
        refine ops_y hH53 rfl rfl (yv_sub rfl rfl (by omega)) ?_
        refine ops_y hH53 rfl rfl (yv_index T.sl95 rfl rfl (Heap.rdw T.el95_encBo hH53 (n := 0) rfl).is (by omega)) ?_
        refine ops_y hH53 rfl rfl (yv_load T.one4 rfl (fun _ hw => Rd.at (Heap.rdw T.el95_encBo hw (n := 0) rfl) (i := (((B.hv i.toNat n.toNat).length : Int) - 1) - (k : Int)) (by omega) (j := 0) rfl)) ?_
        refine ops_nil (thn_n ?_)
        by_cases hc55 : (nth (B.hv i.toNat n.toNat) ((((B.hv i.toNat n.toNat).length : Int) - 1) - (k : Int))) = true
        ·skip
         have hbt : (nth (B.hv i.toNat n.toNat) (((B.hv i.toNat n.toNat).length : Int) - 1 - (k : Int))) = true := hc55
         refine cond_t rfl hc55 ?_
         refine region (oM hH53 rfl rfl (oM hH53 rfl rfl ?_))
         refine op_fnV rfl rfl rfl hH53 (c76 (x := B.upTo (B.sm (B.leaf e)) p (B.hv i.toNat n.toNat) k) (y := nth p (k : Int)) (hG.now hH53 (n := 5) rfl)) (fun w56 hH57 => ?_)
         refine oA hH57 rfl rfl (ops_nil (blk_n (thn_n (region ?_))))
         refine ops_y hH57 rfl rfl (yv_add rfl rfl (by omega)) ?_
         refine oM hH57 rfl rfl (ops_nil ?_)
         refine lp_n (k + 1) (uC rfl (Sub.cons (congrArg (fun z : Int => some (Value.int .u64 z)) (by rw [B.upTo_succ hpl (by omega)]; first | rw [B.up1_t hbt] | rw [B.up1_f hbt])) (uC rfl (uC rfl (uC rfl (uC rfl (uC rfl (Sub.nil _)))))))) ?_ ?_
         ·exact ⟨hH57, by omega⟩
         ·first | (dsimp only; omega) | (show _ < _; omega)
        ·skip
         have hbt : ¬ (nth (B.hv i.toNat n.toNat) (((B.hv i.toNat n.toNat).length : Int) - 1 - (k : Int))) = true := by have h := (Bool.eq_false_iff.2 hc55); rw [h]; decide
         refine cond_f rfl (Bool.eq_false_iff.2 hc55) ?_
         refine region (oM hH53 rfl rfl (oM hH53 rfl rfl ?_))
         refine op_fnV rfl rfl rfl hH53 (c76 (x := nth p (k : Int)) (y := B.upTo (B.sm (B.leaf e)) p (B.hv i.toNat n.toNat) k) (hG.now hH53 (n := 5) rfl)) (fun w58 hH59 => ?_)
         refine oA hH59 rfl rfl (ops_nil (blk_n (thn_n (region ?_))))
         refine ops_y hH59 rfl rfl (yv_add rfl rfl (by omega)) ?_
         refine oM hH59 rfl rfl (ops_nil ?_)
         refine lp_n (k + 1) (uC rfl (Sub.cons (congrArg (fun z : Int => some (Value.int .u64 z)) (by rw [B.upTo_succ hpl (by omega)]; first | rw [B.up1_t hbt] | rw [B.up1_f hbt])) (uC rfl (uC rfl (uC rfl (uC rfl (uC rfl (Sub.nil _)))))))) ?_ ?_
         ·exact ⟨hH59, by omega⟩
         ·first | (dsimp only; omega) | (show _ < _; omega)
       ·skip
        have hua := B.upTo_all (now := B.sm (B.leaf e)) (k := k) hpl (by omega)
        refine cond_f rfl (dF hc54) ?_
        refine exit (thn_x (lp_x (blk_here (thn_n (seq (seq (region (oM hH53 rfl rfl (oM hH53 rfl rfl ?_)))))))))
        refine ops_y hH53 rfl rfl (yv_neq rfl rfl) ?_
        refine ops_nil (thn_n ?_)
        by_cases hc60 : ((B.upTo (B.sm (B.leaf e)) p (B.hv i.toNat n.toNat) k).toNat : Int) = (r.toNat : Int)
        ·skip
         have hgood : (B.st e i.toNat n.toNat p).2 = true ∧ B.sm (B.lastS (B.st e i.toNat n.toNat p).1) = r := ⟨hsk.1.2 hpl, toNatI.1 (by rw [hstu, ← hua]; omega)⟩
         refine cond_f rfl (not_decide_n hc60) ?_
         refine skip (thn_n (seq (region (oA hH53 rfl rfl (ops_nil (thn_n (ret ?_)))))))
         have hH61 := (hH53.sub (sC (sC (sC (sC (sC sR))))))
         refine fin hH61 (fun w' hf => (res1 rfl (show RV _ _ _ (.tmp 10) _ from rfl))) (fun w' hf => ?_)
         first | exact congrArg (Value.int .i64) ((B.cp1 (by omega)).trans hE3).symm | exact congrArg (Value.int .i64) ((B.cp1 (by omega)).trans hE2).symm | exact congrArg (Value.int .i64) (B.cp1 (by omega)).symm | exact congrArg (Value.int .i64) (B.cp2 hE0 (by omega)).symm | exact congrArg (Value.int .i64) (B.cp3 hE0 (by omega) (by omega)).symm | exact congrArg (Value.int .i64) (B.cp4 hE0 (by omega) (by omega) hbad).symm | exact congrArg (Value.int .i64) (B.cp5 hE0 (by omega) (by omega) hgood).symm
        ·skip
         have hbad : ¬ ((B.st e i.toNat n.toNat p).2 = true ∧ B.sm (B.lastS (B.st e i.toNat n.toNat p).1) = r) := fun h => absurd (toNatI.2 h.2) (by rw [hstu, ← hua]; omega)
         refine cond_t rfl (not_decide_t hc60) ?_
         refine seq (region (oA hH53 rfl rfl (ops_nil (thn_n (ret (thn_r ?_))))))
         have hH62 := (hH53.sub (sC (sC (sC (sC (sC sR))))))
         refine fin hH62 (fun w' hf => (res1 rfl (show RV _ _ _ (.tmp 10) _ from rfl))) (fun w' hf => ?_)
         first | exact congrArg (Value.int .i64) ((B.cp1 (by omega)).trans hE3).symm | exact congrArg (Value.int .i64) ((B.cp1 (by omega)).trans hE2).symm | exact congrArg (Value.int .i64) (B.cp1 (by omega)).symm | exact congrArg (Value.int .i64) (B.cp2 hE0 (by omega)).symm | exact congrArg (Value.int .i64) (B.cp3 hE0 (by omega) (by omega)).symm | exact congrArg (Value.int .i64) (B.cp4 hE0 (by omega) (by omega) hbad).symm | exact congrArg (Value.int .i64) (B.cp5 hE0 (by omega) (by omega) hgood).symm
     ·skip
      have hbad : ¬ ((B.st e i.toNat n.toNat p).2 = true ∧ B.sm (B.lastS (B.st e i.toNat n.toNat p).1) = r) := fun h => by have := hsk.1.1 h.1; omega
      refine cond_t rfl (not_decide_t hc51) ?_
      refine seq (region (oA hH50 rfl rfl (ops_nil (thn_n (ret (thn_r ?_))))))
      have hH63 := (hH50.sub (sC (sC (sC (sC (sC sR))))))
      refine fin hH63 (fun w' hf => (res1 rfl (show RV _ _ _ (.tmp 10) _ from rfl))) (fun w' hf => ?_)
      first | exact congrArg (Value.int .i64) ((B.cp1 (by omega)).trans hE3).symm | exact congrArg (Value.int .i64) ((B.cp1 (by omega)).trans hE2).symm | exact congrArg (Value.int .i64) (B.cp1 (by omega)).symm | exact congrArg (Value.int .i64) (B.cp2 hE0 (by omega)).symm | exact congrArg (Value.int .i64) (B.cp3 hE0 (by omega) (by omega)).symm | exact congrArg (Value.int .i64) (B.cp4 hE0 (by omega) (by omega) hbad).symm | exact congrArg (Value.int .i64) (B.cp5 hE0 (by omega) (by omega) hgood).symm
    ·skip
     refine cond_t rfl (not_decide_t hc27) ?_
     refine seq (region (oA hH26 rfl rfl (ops_nil (thn_n (ret (blk_r (thn_r ?_)))))))
     have hH64 := (hH26.sub (sC (sC (sC sR))))
     refine fin hH64 (fun w' hf => (res1 rfl (show RV _ _ _ (.tmp 10) _ from rfl))) (fun w' hf => ?_)
     first | exact congrArg (Value.int .i64) ((B.cp1 (by omega)).trans hE3).symm | exact congrArg (Value.int .i64) ((B.cp1 (by omega)).trans hE2).symm | exact congrArg (Value.int .i64) (B.cp1 (by omega)).symm | exact congrArg (Value.int .i64) (B.cp2 hE0 (by omega)).symm | exact congrArg (Value.int .i64) (B.cp3 hE0 (by omega) (by omega)).symm | exact congrArg (Value.int .i64) (B.cp4 hE0 (by omega) (by omega) hbad).symm | exact congrArg (Value.int .i64) (B.cp5 hE0 (by omega) (by omega) hgood).symm
   ·skip
    refine cond_t rfl (not_decide_t hc19) ?_
    refine seq (region (oA hH18 rfl rfl (ops_nil (thn_n (ret (blk_r (thn_r ?_)))))))
    have hH65 := (hH18.sub (sC (sC sR)))
    refine fin hH65 (fun w' hf => (res1 rfl (show RV _ _ _ (.tmp 10) _ from rfl))) (fun w' hf => ?_)
    first | exact congrArg (Value.int .i64) ((B.cp1 (by omega)).trans hE3).symm | exact congrArg (Value.int .i64) ((B.cp1 (by omega)).trans hE2).symm | exact congrArg (Value.int .i64) (B.cp1 (by omega)).symm | exact congrArg (Value.int .i64) (B.cp2 hE0 (by omega)).symm | exact congrArg (Value.int .i64) (B.cp3 hE0 (by omega) (by omega)).symm | exact congrArg (Value.int .i64) (B.cp4 hE0 (by omega) (by omega) hbad).symm | exact congrArg (Value.int .i64) (B.cp5 hE0 (by omega) (by omega) hgood).symm
end Go.Fip
namespace Go.Fip
open Go.Proofs Go.RowKit
theorem c78r {v : Value} {l : List En} {m : Nat} {wh : Bool} {w : World} (h0 : Rd encE 5 v l w) (hn : l.length ≤ 64) (hin : B.InR l) (hm1 : 1 ≤ m) (hm : m ≤ l.length) (ih : ∀ {v1 : Value} {l1 : List En} {m1 : Nat} {w2 : Bool} {w1 : World}, Rd encE 5 v1 l1 w1 → l1.length < l.length → l1.length ≤ 64 → B.InR l1 → 1 ≤ m1 → m1 ≤ l1.length → Fn Tryz.prog 78 #[v1, .int .i64 (m1 : Int), .bool w2] w1 (fun u w => Own 32 1 encW u (B.gw l1 m1 w2) w))  :
  Fn Tryz.prog 78 [v, (.int .i64 (m : Int)), (.bool wh)].toArray w (fun u w => Own 32 1 encW u (B.gw l m wh) w) := by
 refine fn_of' (args := [v, (.int .i64 (m : Int)), (.bool wh)]) Tryz.func78 rfl (ent Tryz.func78 (by kernel_rfl) rfl) rfl rfl (fun hH => ?_)
 refine seq (region (oA hH rfl rfl (ops_nil (thn_n (seq (seq (region (oM hH rfl rfl (oM hH rfl rfl ?_)))))))))
 refine ops_y hH rfl rfl (yv_len T.sl22 rfl (h0.now hH (n := 0) rfl).is) ?_
 refine ops_y hH rfl rfl (yv_eql rfl rfl) ?_
 refine oM hH rfl rfl ?_
 by_cases hc1 : (m : Int) = (l.length : Int)
 ·skip
  refine guard_yes rfl rfl (dT hc1) ?_
  refine oM hH rfl rfl ?_
  refine ops_y hH rfl rfl (yv_pick_t rfl (dT hc1) rfl) ?_
  refine ops_nil (thn_n ?_)
  by_cases hc2 : wh = true
  ·skip
   have hwt : wh = true := by first | assumption | (simp_all; done)
   refine cond_t rfl hc2 ?_
   refine seq (region (oA hH rfl rfl (ops_nil (thn_n (ret (thn_r ?_))))))
   refine fin hH (fun w' hf => (res1 rfl (show RV _ _ _ (.tmp 6) _ from rfl))) (fun w' hf => ?_)
   first | (rw [hpe]; exact Heap.own hf (n := 0) rfl) | (subst hwt; rw [B.gw_all hm1 (by omega)]; exact own_nil) | (have hwf : wh = false := Bool.eq_false_iff.2 (by assumption); subst hwf; rw [B.gw_one hm1 (by omega)]; exact Heap.own hf (n := 0) rfl)
  ·skip
   refine cond_f rfl (Bool.eq_false_iff.2 hc2) ?_
   refine skip (thn_n (seq (seq (region (oM hH rfl rfl (oM hH rfl rfl ?_))))))
   refine ops_y hH rfl rfl (yv_len T.sl22 rfl (h0.now hH (n := 0) rfl).is) ?_
   refine ops_y hH rfl rfl (yv_eql rfl rfl) ?_
   refine ops_nil (thn_n ?_)
   refine cond_t rfl (dT hc1) ?_
   refine seq (region (oM hH rfl rfl ?_))
   refine op_fnV rfl rfl rfl hH (c44 (h0.now hH (n := 0) rfl) (by omega) hin) (fun w3 hH4 => ?_)
   refine op_lit (us := [(0, (.int .u64 ((B.root l).toNat : Int)))]) T.el39_encW [B.root l] rfl (by decide) rfl (fun a ha => by simp [ha.ev (show ev _ (.tmp 20) = some _ from rfl)]) (fun w => by kernel_rfl) hH4 (fun u5 lo7 hi8 w6 hH9 => ?_)
   refine oA hH9 rfl rfl (ops_nil (thn_n (ret (thn_r ?_))))
   refine fin (hH9.front (n := 1) rfl) (fun w' hf => (res1 rfl (show RV _ _ _ (.tmp 6) _ from rfl))) (fun w' hf => ?_)
   first | (rw [hpe]; exact Heap.own hf (n := 0) rfl) | (subst hwt; rw [B.gw_all hm1 (by omega)]; exact own_nil) | (have hwf : wh = false := Bool.eq_false_iff.2 (by assumption); subst hwf; rw [B.gw_one hm1 (by omega)]; exact Heap.own hf (n := 0) rfl)
 ·skip
  refine guard_no rfl rfl (dF hc1) rfl ?_
  refine ops_y hH rfl rfl (yv_pick_f rfl (dF hc1) rfl) ?_
  refine ops_nil (thn_n ?_)
  refine cond_f rfl rfl ?_
  refine skip (thn_n (seq (seq (region (oM hH rfl rfl (oM hH rfl rfl ?_))))))
  refine ops_y hH rfl rfl (yv_len T.sl22 rfl (h0.now hH (n := 0) rfl).is) ?_
  refine ops_y hH rfl rfl (yv_eql rfl rfl) ?_
  refine ops_nil (thn_n ?_)
  refine cond_f rfl (dF hc1) ?_
  refine skip (thn_n (seq ?_))
  have hbh := B.half_lt (n := l.length) (by omega)
  refine region (oM hH rfl rfl ?_)
  refine ops_y hH rfl rfl (yv_len T.sl22 rfl (h0.now hH (n := 0) rfl).is) ?_
  refine op_fnV rfl rfl rfl hH (c96 (by omega)) (fun w10 hH11 => ?_)
  refine oA hH11 rfl rfl (ops_nil (thn_n (seq (seq (region (oM hH11 rfl rfl (oM hH11 rfl rfl ?_)))))))
  refine ops_y hH11 rfl rfl (yv_leq rfl rfl) ?_
  refine ops_nil (thn_n ?_)
  by_cases hc12 : (m : Int) ≤ (B.half l.length : Int)
  ·skip
   have hpe := B.gw_left (l := l) (m := m) (w := wh) hm1 (by omega) (by omega)
   have hpl := B.gw_len (B.half l.length) (l.take (B.half l.length)) m wh (by rw [List.length_take]; omega) hm1 (by omega)
   refine cond_t rfl (dT hc12) ?_
   refine seq ?_
   refine region_draw (fun w' => True) T.mixed (fun w13 hr14 => ?_)
   have hH15 := hH11.redrawn hr14
   refine any_takes [0, 1, 2, 3, 4, 6, 7, 8] (by kernel_rfl) trivial _ _ _ (by kernel_rfl) ?_
   refine qM rfl rfl rfl (qM rfl rfl rfl ?_)
   refine qs_y rfl rfl (yv_cut_hi T.sl22 rfl rfl (h0.now hH15 (n := 0) rfl).is (by omega)) ?_
   refine qM rfl rfl rfl (qM rfl rfl rfl (qM rfl rfl rfl (qM rfl rfl rfl ?_)))
   refine qs_y rfl rfl (yv_cut_lo T.sl22 rfl rfl (h0.now hH15 (n := 0) rfl).is (by omega)) ?_
   refine qs_nil ?_
   refine any_all [5] (by kernel_rfl) rfl ?_
   refine ⟨⟨_, rfl, ?_⟩, trivial⟩
   ·skip
    refine op_fn rfl rfl rfl hH15 (ih (m1 := m) (w2 := wh) (Rd.upto (h0.now hH15 (n := 0) rfl) (hi := (B.half l.length : Int).toNat) (by omega)) (by rw [List.length_take]; omega) (by rw [List.length_take]; omega) (B.InR.take hin _) hm1 (by rw [List.length_take]; omega)) (fun u18 w16 lo19 hi20 hH17 hv21 => ?_)
    have hH22 := Heap.toOw hH17 (n := 0) rfl
    refine ops_nil ?_
    refine ⟨trivial, ?_⟩
    refine any_all [9] (by kernel_rfl) rfl ?_
    refine ⟨⟨_, rfl, ?_⟩, trivial⟩
    ·skip
     refine op_fnV rfl rfl rfl hH22 (c44 (Rd.from (h0.now hH22 (n := 1) rfl) (lo := (B.half l.length : Int).toNat) (by omega)) (by rw [List.length_drop]; omega) (B.InR.drop hin _)) (fun w23 hH24 => ?_)
     refine ops_nil ?_
     refine ⟨trivial, ?_⟩
     refine any_all [10] (by kernel_rfl) rfl ?_
     refine ⟨⟨_, rfl, ?_⟩, trivial⟩
     ·skip
      refine op_lit (us := [(0, (.int .u64 ((B.root (l.drop (B.half l.length : Int).toNat)).toNat : Int)))]) T.el39_encW [B.root (l.drop (B.half l.length : Int).toNat)] rfl (by decide) rfl (fun a ha => by simp [ha.ev (show ev _ (.tmp 37) = some _ from rfl)]) (fun w => by kernel_rfl) hH24 (fun u25 lo27 hi28 w26 hH29 => ?_)
      refine ops_nil ?_
      refine ⟨trivial, ?_⟩
      refine any_all [11] (by kernel_rfl) rfl ?_
      refine ⟨⟨_, rfl, ?_⟩, trivial⟩
      ·skip
       refine op_append (n := 1) T.el39_encW rfl rfl rfl hH29 rfl (Heap.rdw T.el39_encW hH29 (n := 0) rfl) (by simp only [Int.toNat_natCast, List.length_cons, List.length_nil]; omega) (fun u30 lo32 hi33 w31 hH34 => ?_)
       refine ops_nil ?_
       refine ⟨trivial, ?_⟩
       refine any_takes [12] (by kernel_rfl) trivial _ _ _ (by kernel_rfl) ?_
       refine qs_y rfl rfl (yv_assign rfl) (qs_nil ?_)
       refine any_done (by kernel_rfl) ?_
       refine thn_n (ret (thn_r ?_))
       have hH35 := (hH34.sub (sC sR))
       refine fin (hH35.front (n := 1) rfl) (fun w' hf => (res1 rfl (show RV _ _ _ (.tmp 6) _ from rfl))) (fun w' hf => ?_)
       first | (rw [hpe]; exact Heap.own hf (n := 0) rfl) | (subst hwt; rw [B.gw_all hm1 (by omega)]; exact own_nil) | (have hwf : wh = false := Bool.eq_false_iff.2 (by assumption); subst hwf; rw [B.gw_one hm1 (by omega)]; exact Heap.own hf (n := 0) rfl)
  ·skip
   have hpe := B.gw_right (l := l) (m := m) (w := wh) hm1 (by omega) (by omega)
   have hpl := B.gw_len (l.length - B.half l.length) (l.drop (B.half l.length)) (m - (B.half l.length)) false (by rw [List.length_drop]) (by omega) (by omega)
   refine cond_f rfl (dF hc12) ?_
   refine skip (thn_n (seq ?_))
   refine region_draw (fun w' => True) T.mixed (fun w36 hr37 => ?_)
   have hH38 := hH11.redrawn hr37
   refine any_takes [0, 1, 2, 3, 4, 5, 7, 8, 9] (by kernel_rfl) trivial _ _ _ (by kernel_rfl) ?_
   refine qM rfl rfl rfl (qM rfl rfl rfl ?_)
   refine qs_y rfl rfl (yv_cut_lo T.sl22 rfl rfl (h0.now hH38 (n := 0) rfl).is (by omega)) ?_
   refine qM rfl rfl rfl (qM rfl rfl rfl ?_)
   refine qs_y rfl rfl (yv_cast (show (m : Int) - (B.half l.length : Int) = ((m - B.half l.length : Nat) : Int) by omega) (yv_sub rfl rfl (by omega))) ?_
   refine qM rfl rfl rfl (qM rfl rfl rfl ?_)
   refine qs_y rfl rfl (yv_cut_hi T.sl22 rfl rfl (h0.now hH38 (n := 0) rfl).is (by omega)) ?_
   refine qs_nil ?_
   refine any_all [6] (by kernel_rfl) rfl ?_
   refine ⟨⟨_, rfl, ?_⟩, trivial⟩
   ·skip
    refine op_fn rfl rfl rfl hH38 (ih (m1 := (m - B.half l.length)) (w2 := false) (Rd.from (h0.now hH38 (n := 0) rfl) (lo := (B.half l.length : Int).toNat) (by omega)) (by rw [List.length_drop]; omega) (by rw [List.length_drop]; omega) (B.InR.drop hin _) (by omega) (by rw [List.length_drop]; omega)) (fun u41 w39 lo42 hi43 hH40 hv44 => ?_)
    have hH45 := Heap.toOw hH40 (n := 0) rfl
    refine ops_nil ?_
    refine ⟨trivial, ?_⟩
    refine any_all [10] (by kernel_rfl) rfl ?_
    refine ⟨⟨_, rfl, ?_⟩, trivial⟩
    ·skip
     refine op_fnV rfl rfl rfl hH45 (c44 (Rd.upto (h0.now hH45 (n := 1) rfl) (hi := (B.half l.length : Int).toNat) (by omega)) (by rw [List.length_take]; omega) (B.InR.take hin _)) (fun w46 hH47 => ?_)
     refine ops_nil ?_
     refine ⟨trivial, ?_⟩
     refine any_all [11] (by kernel_rfl) rfl ?_
     refine ⟨⟨_, rfl, ?_⟩, trivial⟩
     ·skip
      refine op_lit (us := [(0, (.int .u64 ((B.root (l.take (B.half l.length : Int).toNat)).toNat : Int)))]) T.el39_encW [B.root (l.take (B.half l.length : Int).toNat)] rfl (by decide) rfl (fun a ha => by simp [ha.ev (show ev _ (.tmp 50) = some _ from rfl)]) (fun w => by kernel_rfl) hH47 (fun u48 lo50 hi51 w49 hH52 => ?_)
      refine ops_nil ?_
      refine ⟨trivial, ?_⟩
      refine any_all [12] (by kernel_rfl) rfl ?_
      refine ⟨⟨_, rfl, ?_⟩, trivial⟩
      ·skip
       refine op_append (n := 1) T.el39_encW rfl rfl rfl hH52 rfl (Heap.rdw T.el39_encW hH52 (n := 0) rfl) (by simp only [Int.toNat_natCast, List.length_cons, List.length_nil]; omega) (fun u53 lo55 hi56 w54 hH57 => ?_)
       refine ops_nil ?_
       refine ⟨trivial, ?_⟩
       refine any_takes [13] (by kernel_rfl) trivial _ _ _ (by kernel_rfl) ?_
       refine qs_y rfl rfl (yv_assign rfl) (qs_nil ?_)
       refine any_done (by kernel_rfl) ?_
       refine thn_n (ret ?_)
       have hH58 := (hH57.sub (sC sR))
       refine fin (hH58.front (n := 1) rfl) (fun w' hf => (res1 rfl (show RV _ _ _ (.tmp 6) _ from rfl))) (fun w' hf => ?_)
       first | (rw [hpe]; exact Heap.own hf (n := 0) rfl) | (subst hwt; rw [B.gw_all hm1 (by omega)]; exact own_nil) | (have hwf : wh = false := Bool.eq_false_iff.2 (by assumption); subst hwf; rw [B.gw_one hm1 (by omega)]; exact Heap.own hf (n := 0) rfl)
theorem c78 {v : Value} {l : List En} {m : Nat} {wh : Bool} {w : World} (h0 : Rd encE 5 v l w) (hn : l.length ≤ 64) (hin : B.InR l) (hm1 : 1 ≤ m) (hm : m ≤ l.length) : Fn Tryz.prog 78 #[v, .int .i64 (m : Int), .bool wh] w (fun u w => Own 32 1 encW u (B.gw l m wh) w) := by
 induction hl : l.length using Nat.strongRecOn generalizing v l m wh w with
 | _ n ih => exact c78r h0 hn hin hm1 hm (fun h1 h2 h3 h4 h5 h6 => ih _ (by omega) h1 h3 h4 h5 h6 rfl)
theorem c33 {v : Value} {l : List En} {w : World} (h0 : Rd encE 5 v l w) (hn : l.length ≤ 1000000) {m : Int}  :
  Fn Tryz.prog 33 [(.agg #[v]), (.int .i64 m)].toArray w (fun u w => ∃ q, u = .tuple #[q, .int .i64 (B.gwR l m).2] ∧ Own 32 1 encW q (B.gwR l m).1 w) := by
 refine fn_of' (args := [(.agg #[v]), (.int .i64 m)]) Tryz.func33 rfl (ent Tryz.func33 (by kernel_rfl) rfl) rfl rfl (fun hH => ?_)
 refine seq (region ?_)
 refine op_box (us := [v]) rfl rfl rfl hH (fun b1 w2 hH3 => ?_)
 refine oA hH3 rfl rfl (oA hH3 rfl rfl (ops_nil (thn_n (seq (seq ?_)))))
 by_cases hc4 : B.ck l = 0
 ·skip
  have hc0 : B.ck l = 0 := ‹_›
  have hbk := B.ck_iff.1 hc0
  have hin0 := hbk.2.1
  have hl24 := hbk.1
  refine region ?_
  refine ops_y hH3 rfl rfl (yv_loadA (cs := [v]) T.agg24 rfl rfl (fun _ hw => Heap.cellsw hw (n := 0) rfl (k := 0) rfl)) ?_
  refine op_fnV rfl rfl rfl hH3 (c22 (h0.now hH3 (n := 1) rfl) (by omega)) (fun w5 hH6 => ?_)
  refine ops_y hH6 rfl rfl (yv_neq rfl rfl) ?_
  refine ops_nil (thn_n ?_)
  have hc7 : ¬ (¬ ((B.ck l) = 0)) := fun h => h hc0
  refine cond_f rfl (not_decide_f hc7) ?_
  refine skip (thn_n (seq (seq (region (oM hH6 rfl rfl ?_)))))
  refine ops_y hH6 rfl rfl (yv_lss rfl rfl) ?_
  refine oM hH6 rfl rfl ?_
  by_cases hc8 : m < 1
  ·skip
   refine guard_no rfl rfl (dT hc8) rfl ?_
   refine guard_no rfl rfl (dT hc8) rfl ?_
   refine guard_no rfl rfl (dT hc8) rfl ?_
   refine guard_no rfl rfl (dT hc8) rfl ?_
   refine guard_no rfl rfl (dT hc8) rfl ?_
   refine ops_y hH6 rfl rfl (yv_pick_t rfl (dT hc8) rfl) ?_
   refine ops_nil (thn_n ?_)
   refine cond_t rfl rfl ?_
   refine seq (region (oA hH6 rfl rfl (oA hH6 rfl rfl (ops_nil (thn_n (ret (thn_r ?_)))))))
   have hH9 := (hH6.sub (sC sR))
   refine fin hH9 (fun w' hf => (res2 rfl (show RV _ _ _ (.tmp 4) _ from rfl) (show RV _ _ _ (.tmp 5) _ from rfl))) (fun w' hf => ?_)
   first | (rw [B.gr1 hcn]; exact ⟨_, rfl, own_nil⟩) | (rw [B.gr2 hc0 (by omega)]; exact ⟨_, rfl, own_nil⟩) | (rw [B.gr3 hc0 (by omega)]; exact ⟨_, rfl, Heap.own hf (n := 0) rfl⟩)
  ·skip
   refine guard_yes rfl rfl (dF hc8) ?_
   refine oM hH6 rfl rfl ?_
   refine guard_yes rfl rfl (dF hc8) ?_
   refine ops_y hH6 rfl rfl (yv_field T.f24_0 rfl) ?_
   refine guard_yes rfl rfl (dF hc8) ?_
   refine ops_y hH6 rfl rfl (yv_load T.one22 rfl (fun _ hw => Heap.cellw hw (n := 0) rfl rfl)) ?_
   refine guard_yes rfl rfl (dF hc8) ?_
   refine ops_y hH6 rfl rfl (yv_len T.sl22 rfl (h0.now hH6 (n := 1) rfl).is) ?_
   refine guard_yes rfl rfl (dF hc8) ?_
   refine ops_y hH6 rfl rfl (yv_gtr rfl rfl) ?_
   refine ops_y hH6 rfl rfl (yv_pick_f rfl (dF hc8) rfl) ?_
   refine ops_nil (thn_n ?_)
   by_cases hc10 : (l.length : Int) < m
   ·skip
    refine cond_t rfl (dT hc10) ?_
    refine seq (region (oA hH6 rfl rfl (oA hH6 rfl rfl (ops_nil (thn_n (ret (thn_r ?_)))))))
    have hH11 := (hH6.sub (sC sR))
    refine fin hH11 (fun w' hf => (res2 rfl (show RV _ _ _ (.tmp 4) _ from rfl) (show RV _ _ _ (.tmp 5) _ from rfl))) (fun w' hf => ?_)
    first | (rw [B.gr1 hcn]; exact ⟨_, rfl, own_nil⟩) | (rw [B.gr2 hc0 (by omega)]; exact ⟨_, rfl, own_nil⟩) | (rw [B.gr3 hc0 (by omega)]; exact ⟨_, rfl, Heap.own hf (n := 0) rfl⟩)
   ·skip
    refine cond_f rfl (dF hc10) ?_
    refine skip (thn_n (seq (region ?_)))
    refine ops_y hH6 rfl rfl (yv_field T.f24_0 rfl) ?_
    refine ops_y hH6 rfl rfl (yv_load T.one22 rfl (fun _ hw => Heap.cellw hw (n := 0) rfl rfl)) ?_
    refine ops_y hH6 rfl rfl (yv_cast (show m = (m.toNat : Int) by omega) (yv_move rfl)) ?_
    refine op_fn rfl rfl rfl hH6 (c78 (m := m.toNat) (h0.now hH6 (n := 1) rfl) (by omega) hin0 (by omega) (by omega)) (fun u14 w12 lo15 hi16 hH13 hv17 => ?_)
    have hH18 := Heap.toOw hH13 (n := 0) rfl
    refine oA hH18 rfl rfl (oA hH18 rfl rfl (ops_nil (thn_n (ret ?_))))
    have hH19 := (hH18.sub (List.Sublist.cons_cons _ (sC sR)))
    refine fin (hH19.front (n := 1) rfl) (fun w' hf => (res2 rfl (show RV _ _ _ (.tmp 4) _ from rfl) (show RV _ _ _ (.tmp 5) _ from rfl))) (fun w' hf => ?_)
    first | (rw [B.gr1 hcn]; exact ⟨_, rfl, own_nil⟩) | (rw [B.gr2 hc0 (by omega)]; exact ⟨_, rfl, own_nil⟩) | (rw [B.gr3 hc0 (by omega)]; exact ⟨_, rfl, Heap.own hf (n := 0) rfl⟩)
 ·skip
  have hcn : ¬ B.ck l = 0 := ‹_›
  refine region ?_
  refine ops_y hH3 rfl rfl (yv_loadA (cs := [v]) T.agg24 rfl rfl (fun _ hw => Heap.cellsw hw (n := 0) rfl (k := 0) rfl)) ?_
  refine op_fnV rfl rfl rfl hH3 (c22 (h0.now hH3 (n := 1) rfl) (by omega)) (fun w20 hH21 => ?_)
  refine ops_y hH21 rfl rfl (yv_neq rfl rfl) ?_
  refine ops_nil (thn_n ?_)
  have hc22 : ¬ ((B.ck l) = 0) := hcn
  refine cond_t rfl (not_decide_t hc22) ?_
  refine seq (region ?_)
  refine ops_y hH21 rfl rfl (yv_loadA (cs := [v]) T.agg24 rfl rfl (fun _ hw => Heap.cellsw hw (n := 0) rfl (k := 0) rfl)) ?_
  refine op_fnV rfl rfl rfl hH21 (c22 (h0.now hH21 (n := 1) rfl) (by omega)) (fun w23 hH24 => ?_)
  refine oA hH24 rfl rfl (oA hH24 rfl rfl (ops_nil (thn_n (ret (thn_r ?_)))))
  have hH25 := (hH24.sub (sC sR))
  refine fin hH25 (fun w' hf => (res2 rfl (show RV _ _ _ (.tmp 4) _ from rfl) (show RV _ _ _ (.tmp 5) _ from rfl))) (fun w' hf => ?_)
  first | (rw [B.gr1 hcn]; exact ⟨_, rfl, own_nil⟩) | (rw [B.gr2 hc0 (by omega)]; exact ⟨_, rfl, own_nil⟩) | (rw [B.gr3 hc0 (by omega)]; exact ⟨_, rfl, Heap.own hf (n := 0) rfl⟩)
theorem tupR {p : UInt64 × UInt64 × Bool} {a b : UInt64} {c : Bool} (h : p = (a, b, c)) : Value.tuple #[.int .u64 (a.toNat : Int), .int .u64 (b.toNat : Int), .bool c] = .tuple #[.int .u64 (p.1.toNat : Int), .int .u64 (p.2.1.toNat : Int), .bool p.2.2] := by subst h; rfl
theorem tupR2 {p : UInt64 × UInt64 × Bool} {a b : UInt64} {c d : Bool} (h : p = (a, b, d)) (hd : c = d) : Value.tuple #[.int .u64 (a.toNat : Int), .int .u64 (b.toNat : Int), .bool c] = .tuple #[.int .u64 (p.1.toNat : Int), .int .u64 (p.2.1.toNat : Int), .bool p.2.2] := by subst h hd; rfl
theorem B.lastW_at {g : List UInt64} {i : Int} (h : i = (g.length : Int) - 1) : nth g i = B.lastW g := by rw [h]; rfl
theorem c80r {v : Value} {p : List UInt64} {m n : Nat} {wh : Bool} {o : UInt64} {w : World} (h0 : Rd encW 1 v p w) (hp : p.length ≤ 1000) (hm1 : 1 ≤ m) (hm : m ≤ n) (hn : n ≤ 64) (ih : ∀ {v1 : Value} {p1 : List UInt64} {m1 n1 : Nat} {w2 : Bool} {o1 : UInt64} {w1 : World}, Rd encW 1 v1 p1 w1 → n1 < n → p1.length ≤ 1000 → 1 ≤ m1 → m1 ≤ n1 → Fn Tryz.prog 80 #[.int .i64 (m1 : Int), .int .i64 (n1 : Int), v1, .bool w2, .int .u64 (o1.toNat : Int)] w1 (fun u _ => u = .tuple #[.int .u64 ((B.rt m1 n1 p1 w2 o1).1.toNat : Int), .int .u64 ((B.rt m1 n1 p1 w2 o1).2.1.toNat : Int), .bool (B.rt m1 n1 p1 w2 o1).2.2]))  :
  Fn Tryz.prog 80 [(.int .i64 (m : Int)), (.int .i64 (n : Int)), v, (.bool wh), (.int .u64 (o.toNat : Int))].toArray w (fun u _ => u = .tuple #[.int .u64 ((B.rt m n p wh o).1.toNat : Int), .int .u64 ((B.rt m n p wh o).2.1.toNat : Int), .bool (B.rt m n p wh o).2.2]) := by
 refine fn_of' (args := [(.int .i64 (m : Int)), (.int .i64 (n : Int)), v, (.bool wh), (.int .u64 (o.toNat : Int))]) Tryz.func80 rfl (ent Tryz.func80 (by kernel_rfl) rfl) rfl rfl (fun hH => ?_)
 refine seq (region (oA hH rfl rfl (oA hH rfl rfl (oA hH rfl rfl (ops_nil (thn_n (seq (region (oM hH rfl rfl ?_)))))))))
 refine ops_y hH rfl rfl (yv_len T.sl39 rfl (h0.now hH (n := 0) rfl).is) ?_
 refine oA hH rfl rfl (ops_nil (thn_n (seq (seq (region (oM hH rfl rfl (oM hH rfl rfl ?_)))))))
 refine ops_y hH rfl rfl (yv_eql rfl rfl) ?_
 refine oM hH rfl rfl ?_
 by_cases hc1 : (m : Int) = (n : Int)
 ·skip
  have hlast : m = n := by omega
  refine guard_yes rfl rfl (dT hc1) ?_
  refine oM hH rfl rfl ?_
  refine ops_y hH rfl rfl (yv_pick_t rfl (dT hc1) rfl) ?_
  refine ops_nil (thn_n ?_)
  by_cases hc2 : wh = true
  ·skip
   have hwt : wh = true := by first | assumption | (simp_all; done)
   refine cond_t rfl hc2 ?_
   refine seq (region (oM hH rfl rfl (oM hH rfl rfl (oM hH rfl rfl ?_))))
   refine ops_y hH rfl rfl (yv_eql rfl rfl) ?_
   refine oA hH rfl rfl (oA hH rfl rfl (oA hH rfl rfl (ops_nil (thn_n (ret (thn_r ?_))))))
   refine fin hH (fun w' hf => (res3 rfl (show RV _ _ _ (.tmp 10) _ from rfl) (show RV _ _ _ (.tmp 11) _ from rfl) (show RV _ _ _ (.tmp 12) _ from rfl))) (fun w' hf => ?_)
   subst hwt
   exact tupR2 (p := B.rt m n p true o) (B.rt_all hm1 (by omega)) (decide_eq_decide.2 (by omega))
  ·skip
   have hnw : ¬ (m = n ∧ wh = true) := fun h => by first | exact absurd h.2 ‹_› | omega | (simp_all; done)
   refine cond_f rfl (Bool.eq_false_iff.2 hc2) ?_
   refine skip (thn_n (seq (seq (region (oM hH rfl rfl ?_)))))
   refine ops_y hH rfl rfl (yv_eql rfl rfl) ?_
   refine ops_nil (thn_n ?_)
   by_cases hc3 : (p.length : Int) = 0
   ·skip
    have hp0 : p.length = 0 := by omega
    refine cond_t rfl (dT hc3) ?_
    refine seq (region (oA hH rfl rfl (oA hH rfl rfl (oA hH rfl rfl (ops_nil (thn_n (ret (thn_r ?_))))))))
    refine fin hH (fun w' hf => (res3 rfl (show RV _ _ _ (.tmp 10) _ from rfl) (show RV _ _ _ (.tmp 11) _ from rfl) (show RV _ _ _ (.tmp 12) _ from rfl))) (fun w' hf => ?_)
    exact tupR (p := B.rt m n p wh o) (a := 0) (b := 0) (B.rt_none hm1 hm (fun c => by first | exact hnw c | exact absurd c.1 (by omega)) hp0)
   ·skip
    refine cond_f rfl (dF hc3) ?_
    refine skip (thn_n (seq (region (oM hH rfl rfl (oM hH rfl rfl ?_)))))
    refine ops_y hH rfl rfl (yv_sub rfl rfl (by omega)) ?_
    refine ops_y hH rfl rfl (yv_index T.sl39 rfl rfl (h0.now hH (n := 0) rfl).is (by omega)) ?_
    refine ops_y hH rfl rfl (yv_cast (congrArg (fun z : UInt64 => (z.toNat : Int)) (B.lastW_at (by omega))) (yv_load T.one32 rfl (fun _ hw => Rd.at (h0.now hw (n := 0) rfl) (i := (p.length : Int) - 1) (by omega) (j := 0) rfl))) ?_
    refine oA hH rfl rfl (ops_nil (thn_n (seq (seq (region (oM hH rfl rfl (oM hH rfl rfl ?_)))))))
    refine ops_y hH rfl rfl (yv_eql rfl rfl) ?_
    refine ops_nil (thn_n ?_)
    refine cond_t rfl (dT hc1) ?_
    refine seq (region (oM hH rfl rfl (oM hH rfl rfl (oM hH rfl rfl ?_))))
    refine ops_y hH rfl rfl (yv_eql rfl rfl) ?_
    refine oA hH rfl rfl (oA hH rfl rfl (oA hH rfl rfl (ops_nil (thn_n (ret (thn_r ?_))))))
    refine fin hH (fun w' hf => (res3 rfl (show RV _ _ _ (.tmp 10) _ from rfl) (show RV _ _ _ (.tmp 11) _ from rfl) (show RV _ _ _ (.tmp 12) _ from rfl))) (fun w' hf => ?_)
    have hwf : wh = false := Bool.eq_false_iff.2 (fun c => hnw ⟨hlast, c⟩)
    subst hwf
    exact tupR2 (p := B.rt m n p false o) (B.rt_last hm1 hlast (by omega)) (decide_eq_decide.2 (by omega))
 ·skip
  refine guard_no rfl rfl (dF hc1) rfl ?_
  refine ops_y hH rfl rfl (yv_pick_f rfl (dF hc1) rfl) ?_
  refine ops_nil (thn_n ?_)
  refine cond_f rfl rfl ?_
  refine skip (thn_n (seq (seq (region (oM hH rfl rfl ?_)))))
  refine ops_y hH rfl rfl (yv_eql rfl rfl) ?_
  refine ops_nil (thn_n ?_)
  by_cases hc4 : (p.length : Int) = 0
  ·skip
   have hp0 : p.length = 0 := by omega
   refine cond_t rfl (dT hc4) ?_
   refine seq (region (oA hH rfl rfl (oA hH rfl rfl (oA hH rfl rfl (ops_nil (thn_n (ret (thn_r ?_))))))))
   refine fin hH (fun w' hf => (res3 rfl (show RV _ _ _ (.tmp 10) _ from rfl) (show RV _ _ _ (.tmp 11) _ from rfl) (show RV _ _ _ (.tmp 12) _ from rfl))) (fun w' hf => ?_)
   exact tupR (p := B.rt m n p wh o) (a := 0) (b := 0) (B.rt_none hm1 hm (fun c => by first | exact hnw c | exact absurd c.1 (by omega)) hp0)
  ·skip
   refine cond_f rfl (dF hc4) ?_
   refine skip (thn_n (seq (region (oM hH rfl rfl (oM hH rfl rfl ?_)))))
   refine ops_y hH rfl rfl (yv_sub rfl rfl (by omega)) ?_
   refine ops_y hH rfl rfl (yv_index T.sl39 rfl rfl (h0.now hH (n := 0) rfl).is (by omega)) ?_
   refine ops_y hH rfl rfl (yv_cast (congrArg (fun z : UInt64 => (z.toNat : Int)) (B.lastW_at (by omega))) (yv_load T.one32 rfl (fun _ hw => Rd.at (h0.now hw (n := 0) rfl) (i := (p.length : Int) - 1) (by omega) (j := 0) rfl))) ?_
   refine oA hH rfl rfl (ops_nil (thn_n (seq (seq (region (oM hH rfl rfl (oM hH rfl rfl ?_)))))))
   refine ops_y hH rfl rfl (yv_eql rfl rfl) ?_
   refine ops_nil (thn_n ?_)
   refine cond_f rfl (dF hc1) ?_
   refine skip (thn_n (seq ?_))
   have hbh := B.half_lt (n := n) (by omega)
   have hpt : (p.take (p.length - 1)).length = p.length - 1 := by rw [List.length_take]; omega
   refine region (oM hH rfl rfl ?_)
   refine op_fnV rfl rfl rfl hH (c96 (by omega)) (fun w5 hH6 => ?_)
   refine oA hH6 rfl rfl (ops_nil (thn_n (seq (seq (region (oM hH6 rfl rfl (oM hH6 rfl rfl ?_)))))))
   refine ops_y hH6 rfl rfl (yv_leq rfl rfl) ?_
   refine ops_nil (thn_n ?_)
   by_cases hc7 : (m : Int) ≤ (B.half n : Int)
   ·skip
    have hlt : m ≤ B.half n := by omega
    refine cond_t rfl (dT hc7) ?_
    refine seq (region (oM hH6 rfl rfl (oM hH6 rfl rfl (oM hH6 rfl rfl (oM hH6 rfl rfl ?_)))))
    refine ops_y hH6 rfl rfl (yv_cast (show (p.length : Int) - 1 = ((p.length - 1 : Nat) : Int) by omega) (yv_sub rfl rfl (by omega))) ?_
    refine ops_y hH6 rfl rfl (yv_cut_hi T.sl39 rfl rfl (h0.now hH6 (n := 0) rfl).is (by omega)) ?_
    refine oM hH6 rfl rfl (oM hH6 rfl rfl ?_)
    refine op_fnV rfl rfl rfl hH6 (ih (m1 := m) (n1 := (B.half n)) (p1 := (p.take (p.length - 1))) (w2 := wh) (o1 := o) (Rd.upto (h0.now hH6 (n := 0) rfl) (hi := ((p.length - 1 : Nat) : Int).toNat) (by omega)) (by omega) (by rw [List.length_take]; omega) (by omega) (by omega)) (fun w8 hH9 => ?_)
    refine oM hH9 rfl rfl (ops_y hH9 rfl rfl (yv_extract rfl rfl) (ops_y hH9 rfl rfl (yv_extract rfl rfl) (ops_y hH9 rfl rfl (yv_extract rfl rfl) (oA hH9 rfl rfl (oA hH9 rfl rfl (oA hH9 rfl rfl (ops_nil (thn_n (seq ?_)))))))))
    refine region (oM hH9 rfl rfl (oM hH9 rfl rfl (oM hH9 rfl rfl ?_)))
    refine op_fnV rfl rfl rfl hH9 (c97 ) (fun w10 hH11 => ?_)
    refine op_fnV rfl rfl rfl hH11 (c69 (l := (B.both ((B.rt m (B.half n) (p.take (p.length - 1)) wh o).2.1) (B.lastW p))) (by rw [B.both_len]; omega)) (fun w12 hH13 => ?_)
    refine oM hH13 rfl rfl (oA hH13 rfl rfl (oA hH13 rfl rfl (oA hH13 rfl rfl (ops_nil (thn_n (ret (thn_r ?_)))))))
    refine fin hH13 (fun w' hf => (res3 rfl (show RV _ _ _ (.tmp 10) _ from rfl) (show RV _ _ _ (.tmp 11) _ from rfl) (show RV _ _ _ (.tmp 12) _ from rfl))) (fun w' hf => ?_)
    exact tupR (p := B.rt m n p wh o) (B.rt_left hm1 (by omega) (by omega) hlt)
   ·skip
    have hge : ¬ m ≤ B.half n := by omega
    refine cond_f rfl (dF hc7) ?_
    refine skip (thn_n (seq (region (oM hH6 rfl rfl (oM hH6 rfl rfl ?_)))))
    refine ops_y hH6 rfl rfl (yv_cast (show (m : Int) - (B.half n : Int) = ((m - B.half n : Nat) : Int) by omega) (yv_sub rfl rfl (by omega))) ?_
    refine oM hH6 rfl rfl (oM hH6 rfl rfl ?_)
    refine ops_y hH6 rfl rfl (yv_cast (show (n : Int) - (B.half n : Int) = ((n - B.half n : Nat) : Int) by omega) (yv_sub rfl rfl (by omega))) ?_
    refine oM hH6 rfl rfl (oM hH6 rfl rfl ?_)
    refine ops_y hH6 rfl rfl (yv_cast (show (p.length : Int) - 1 = ((p.length - 1 : Nat) : Int) by omega) (yv_sub rfl rfl (by omega))) ?_
    refine ops_y hH6 rfl rfl (yv_cut_hi T.sl39 rfl rfl (h0.now hH6 (n := 0) rfl).is (by omega)) ?_
    refine oM hH6 rfl rfl ?_
    refine op_fnV rfl rfl rfl hH6 (ih (m1 := (m - B.half n)) (n1 := (n - B.half n)) (p1 := (p.take (p.length - 1))) (w2 := false) (o1 := o) (Rd.upto (h0.now hH6 (n := 0) rfl) (hi := ((p.length - 1 : Nat) : Int).toNat) (by omega)) (by omega) (by rw [List.length_take]; omega) (by omega) (by omega)) (fun w14 hH15 => ?_)
    refine oM hH15 rfl rfl (ops_y hH15 rfl rfl (yv_extract rfl rfl) (ops_y hH15 rfl rfl (yv_extract rfl rfl) (ops_y hH15 rfl rfl (yv_extract rfl rfl) (oA hH15 rfl rfl (oA hH15 rfl rfl (oA hH15 rfl rfl (ops_nil (thn_n (seq ?_)))))))))
    refine region (oM hH15 rfl rfl (oM hH15 rfl rfl ?_))
    refine op_fnV rfl rfl rfl hH15 (c97 ) (fun w16 hH17 => ?_)
    refine op_fnV rfl rfl rfl hH17 (c69 (l := (B.both (B.lastW p) ((B.rt (m - B.half n) (n - B.half n) (p.take (p.length - 1)) false o).1))) (by rw [B.both_len]; omega)) (fun w18 hH19 => ?_)
    refine oM hH19 rfl rfl (oM hH19 rfl rfl ?_)
    refine op_fnV rfl rfl rfl hH19 (c97 ) (fun w20 hH21 => ?_)
    refine op_fnV rfl rfl rfl hH21 (c69 (l := (B.both (B.lastW p) ((B.rt (m - B.half n) (n - B.half n) (p.take (p.length - 1)) false o).2.1))) (by rw [B.both_len]; omega)) (fun w22 hH23 => ?_)
    refine oM hH23 rfl rfl (oA hH23 rfl rfl (oA hH23 rfl rfl (oA hH23 rfl rfl (ops_nil (thn_n (ret ?_))))))
    refine fin hH23 (fun w' hf => (res3 rfl (show RV _ _ _ (.tmp 10) _ from rfl) (show RV _ _ _ (.tmp 11) _ from rfl) (show RV _ _ _ (.tmp 12) _ from rfl))) (fun w' hf => ?_)
    exact tupR (p := B.rt m n p wh o) (B.rt_right hm1 (by omega) (by omega) hge)
theorem c80 {v : Value} {p : List UInt64} {m n : Nat} {wh : Bool} {o : UInt64} {w : World} (h0 : Rd encW 1 v p w) (hp : p.length ≤ 1000) (hm1 : 1 ≤ m) (hm : m ≤ n) (hn : n ≤ 64) : Fn Tryz.prog 80 #[.int .i64 (m : Int), .int .i64 (n : Int), v, .bool wh, .int .u64 (o.toNat : Int)] w (fun u _ => u = .tuple #[.int .u64 ((B.rt m n p wh o).1.toNat : Int), .int .u64 ((B.rt m n p wh o).2.1.toNat : Int), .bool (B.rt m n p wh o).2.2]) := by
 induction hl : n using Nat.strongRecOn generalizing v p m n wh o w with
 | _ q ih =>
  subst hl
  exact c80r h0 hp hm1 hm hn (fun k1 k2 k3 k4 k5 => ih _ k2 k1 k3 k4 k5 (by omega) rfl)
end Go.Fip
namespace Go.Fip
open Go.Proofs Go.RowKit
theorem c79 {v : Value} {g : List UInt64} {m n : Nat} {o : UInt64} {w : World} (hG : Gl w) (h0 : Rd encW 1 v g w) (hp : g.length ≤ 1000) (hm1 : 1 ≤ m) (hm : m ≤ n) (hn : n ≤ 64)  :
  Fn Tryz.prog 79 [(.int .i64 (m : Int)), (.int .i64 (n : Int)), v, (.int .u64 (o.toNat : Int))].toArray w (fun u _ => u = .tuple #[.int .u64 ((B.gn m n g o).1.toNat : Int), .int .u64 ((B.gn m n g o).2.1.toNat : Int), .bool (B.gn m n g o).2.2]) := by
 refine fn_of' (args := [(.int .i64 (m : Int)), (.int .i64 (n : Int)), v, (.int .u64 (o.toNat : Int))]) Tryz.func79 rfl (ent Tryz.func79 (by kernel_rfl) rfl) rfl rfl (fun hH => ?_)
 refine seq (region (oA hH rfl rfl (oA hH rfl rfl (oA hH rfl rfl (ops_nil (thn_n (seq (region (oA hH rfl rfl ?_)))))))))
 refine ops_nil (thn_n (seq (region (oA hH rfl rfl (ops_nil (thn_n (seq (block ?_))))))))
 have hH1 := ow_nil (enc := encBo) 4 1 hH
 refine loop (S := Nat × Nat × List Bool × Value × Nat × Nat) (fun (a, b, P, v_11, lo_11, hi_11) => [(0, (.int .i64 (a : Int))), (1, (.int .i64 (b : Int))), (12, (.bool (P.all id))), (11, v_11), (2, v), (3, (.int .u64 (o.toNat : Int))), (8, (.int .u64 0)), (9, (.int .u64 0)), (10, (.bool false))]) (fun (a, b, P, v_11, lo_11, hi_11) w1 => Heap [ow lo_11 hi_11 4 1 encBo v_11 P, base w] w1 ∧ 1 ≤ a ∧ a ≤ b ∧ b ≤ 64 ∧ P.length + b ≤ 64 + 64 ∧ (B.sd m n) = P ++ B.sd a b) (fun (a, b, P, v_11, lo_11, hi_11) => b) (m, n, [], (.slice none 0 0), w.heap.size, w.heap.size) (uC rfl (uC rfl (uC rfl (uC rfl (uC rfl (uC rfl (uC rfl (uC rfl (uC rfl (Sub.nil _)))))))))) ?_ ?_
 ·exact ⟨(Heap.recast (n := 0) hH1 rfl (rfl)), hm1, hm, hn, by simp; omega, rfl⟩
 ·rintro ⟨a, b, P, v_11, lo_11, hi_11⟩ w2 ⟨hH3, ha1, hab, hb, hPl, hS⟩
  show Holds _ _ _ _ _ [(0, (.int .i64 (a : Int))), (1, (.int .i64 (b : Int))), (12, (.bool (P.all id))), (11, v_11), (2, v), (3, (.int .u64 (o.toNat : Int))), (8, (.int .u64 0)), (9, (.int .u64 0)), (10, (.bool false))] _ _
  refine seq (seq (region (oM hH3 rfl rfl (oM hH3 rfl rfl ?_))))
  refine ops_y hH3 rfl rfl (yv_lss rfl rfl) ?_
  refine ops_nil (thn_n ?_)
  by_cases hc4 : (a : Int) < (b : Int)
  ·skip
   refine cond_t rfl (dT hc4) ?_
   refine skip (thn_n (block (seq ?_)))
   have hbh := B.half_lt (n := b) (by omega)
   refine region (oM hH3 rfl rfl ?_)
   refine op_fnV rfl rfl rfl hH3 (c107 (by omega)) (fun w5 hH6 => ?_)
   refine oA hH6 rfl rfl (ops_nil (thn_n (seq (region (oM hH6 rfl rfl (oM hH6 rfl rfl ?_))))))
   refine ops_y hH6 rfl rfl (yv_leq rfl rfl) ?_
   refine oA hH6 rfl rfl (ops_nil (thn_n (seq (region (oM hH6 rfl rfl (oM hH6 rfl rfl ?_))))))
   refine op_lit (us := [(0, (.bool (decide ((a : Int) ≤ (B.half b : Int)))))]) T.el95_encBo [decide ((a : Int) ≤ (B.half b : Int))] rfl (by decide) rfl (fun a ha => by simp [ha.ev (show ev _ (.tmp 28) = some _ from rfl)]) (fun w => by kernel_rfl) hH6 (fun u7 lo9 hi10 w8 hH11 => ?_)
   refine op_append (n := 1) T.el95_encBo rfl rfl rfl hH11 rfl (Heap.rdw T.el95_encBo hH11 (n := 0) rfl) (by first | omega | (simp only [List.length_append, List.length_cons, List.length_nil]; omega)) (fun u12 lo14 hi15 w13 hH16 => ?_)
   refine oA hH16 rfl rfl (ops_nil (thn_n (seq (seq (region (oM hH16 rfl rfl (ops_nil (thn_n ?_))))))))
   by_cases hc17 : (a : Int) ≤ (B.half b : Int)
   ·skip
    have hlt : a ≤ B.half b := by omega
    refine cond_t rfl (dT hc17) ?_
    refine seq (region (oM hH16 rfl rfl (oA hH16 rfl rfl (ops_nil (thn_n (exit (thn_x (blk_here ?_))))))))
    have hH18 := (hH16.sub (sC sR))
    refine lp_n (a, (B.half b), (P ++ [decide ((a : Int) ≤ (B.half b : Int))]), u12, lo14, hi15) (Sub.cons (congrArg (fun z : Int => some (Value.int .i64 z)) (by omega)) (Sub.cons (congrArg (fun z : Int => some (Value.int .i64 z)) (by omega)) (Sub.cons (congrArg (fun z : Bool => some (Value.bool z)) (by first | (rw [List.all_append, dT (by omega)]; simp; done) | (rw [List.all_append, dF (by omega)]; simp; done))) (uC rfl (uC rfl (uC rfl (uC rfl (uC rfl (uC rfl (Sub.nil _)))))))))) ?_ ?_
    ·exact ⟨(Heap.recast (n := 0) hH18 rfl (rfl)), by omega, by omega, by omega, by (simp only [List.length_append, List.length_cons, List.length_nil]; omega), (by rw [hS, B.sd_left ha1 (by omega) hlt, dT (by omega), List.append_assoc]; rfl)⟩
    ·first | (dsimp only; omega) | (show _ < _; omega)
   ·skip
    have hge : ¬ a ≤ B.half b := by omega
    refine cond_f rfl (dF hc17) ?_
    refine skip (thn_n (seq (region (oM hH16 rfl rfl (oM hH16 rfl rfl ?_)))))
    refine ops_y hH16 rfl rfl (yv_sub rfl rfl (by omega)) ?_
    refine oM hH16 rfl rfl (oM hH16 rfl rfl ?_)
    refine ops_y hH16 rfl rfl (yv_sub rfl rfl (by omega)) ?_
    refine oA hH16 rfl rfl (oA hH16 rfl rfl (ops_nil (thn_n (region (oA hH16 rfl rfl (ops_nil (blk_n ?_)))))))
    have hH19 := (hH16.sub (sC sR))
    refine lp_n ((a - B.half b), (b - B.half b), (P ++ [decide ((a : Int) ≤ (B.half b : Int))]), u12, lo14, hi15) (Sub.cons (congrArg (fun z : Int => some (Value.int .i64 z)) (by omega)) (Sub.cons (congrArg (fun z : Int => some (Value.int .i64 z)) (by omega)) (Sub.cons (congrArg (fun z : Bool => some (Value.bool z)) (by first | (rw [List.all_append, dT (by omega)]; simp; done) | (rw [List.all_append, dF (by omega)]; simp; done))) (uC rfl (uC rfl (uC rfl (uC rfl (uC rfl (uC rfl (Sub.nil _)))))))))) ?_ ?_
    ·exact ⟨(Heap.recast (n := 0) hH19 rfl (rfl)), by omega, by omega, by omega, by (simp only [List.length_append, List.length_cons, List.length_nil]; omega), (by rw [hS, B.sd_right ha1 (by omega) hge, dF (by omega), List.append_assoc]; rfl)⟩
    ·first | (dsimp only; omega) | (show _ < _; omega)
  ·skip
   have hsP : (B.sd m n) = P := by rw [hS, B.sd_done (by omega), List.append_nil]
   refine cond_f rfl (dF hc4) ?_
   refine exit (thn_x (lp_x (blk_here (thn_n (seq (region (oM hH3 rfl rfl (oM hH3 rfl rfl (oA hH3 rfl rfl ?_)))))))))
   refine oA hH3 rfl rfl (ops_nil (thn_n (seq (seq (region (oM hH3 rfl rfl ?_))))))
   refine ops_y hH3 rfl rfl (yv_not rfl) ?_
   refine ops_nil (thn_n ?_)
   by_cases hc20 : (!(P.all id)) = true
   ·skip
    have hnall : ¬ (B.sd m n).all id = true := by rw [hsP]; simpa using hc20
    have hbs := B.bs0_f (g := g) (o := o) hnall
    have hrs := B.rs0_f (g := g) hnall
    refine cond_t rfl hc20 ?_
    refine seq (seq (region (oM hH3 rfl rfl ?_)))
    refine ops_y hH3 rfl rfl (yv_len T.sl39 rfl (h0.now hH3 (n := 1) rfl).is) ?_
    refine ops_y hH3 rfl rfl (yv_eql rfl rfl) ?_
    refine ops_nil (thn_n ?_)
    by_cases hc21 : (g.length : Int) = 0
    ·skip
     have hno : ¬ ((B.rs0 m n g true).length = (B.sd m n).length ∧ ((B.sd m n).all id = true ∨ 1 ≤ g.length)) := fun h => h.2.elim hnall (by omega)
     refine cond_t rfl (dT hc21) ?_
     refine seq (region (oA hH3 rfl rfl (oA hH3 rfl rfl (oA hH3 rfl rfl (ops_nil (thn_n (ret (thn_r (thn_r ?_)))))))))
     have hH22 := (hH3.sub (sC sR))
     refine fin hH22 (fun w' hf => (res3 rfl (show RV _ _ _ (.tmp 8) _ from rfl) (show RV _ _ _ (.tmp 9) _ from rfl) (show RV _ _ _ (.tmp 10) _ from rfl))) (fun w' hf => ?_)
     exact tupR (p := B.gn m n g o) (a := 0) (b := 0) (B.gn_no hno)
    ·skip
     refine cond_f rfl (dF hc21) ?_
     refine skip (thn_n (seq ?_))
     refine region_draw (fun w' => Heap [ow lo_11 hi_11 4 1 encBo v_11 P, base w] w') T.mixed (fun w23 hr24 => ?_)
     have hH25 := hH3.redrawn hr24
     refine any_takes [0, 1, 2, 3, 4, 5, 6, 7] (by kernel_rfl) hH25 _ _ _ (by kernel_rfl) ?_
     refine qM rfl rfl rfl ?_
     refine qs_y rfl rfl (yv_index T.sl39 rfl rfl (h0.now hH25 (n := 1) rfl).is (by omega)) ?_
     refine qs_y rfl rfl (yv_load T.one32 rfl (fun _ hw => Rd.at (h0.now hw (n := 1) rfl) (i := 0) (by omega) (j := 0) rfl)) ?_
     refine qM rfl rfl rfl ?_
     refine qs_y rfl rfl (yv_index T.sl39 rfl rfl (h0.now hH25 (n := 1) rfl).is (by omega)) ?_
     refine qs_y rfl rfl (yv_load T.one32 rfl (fun _ hw => Rd.at (h0.now hw (n := 1) rfl) (i := 0) (by omega) (j := 0) rfl)) ?_
     refine qs_y rfl rfl (yv_assign rfl) (qs_y rfl rfl (yv_assign rfl) (qs_nil ?_))
     refine any_done (by kernel_rfl) ?_
     refine thn_n (region (oM hH25 rfl rfl ?_))
     refine ops_y hH25 rfl rfl (yv_cut_lo T.sl39 rfl rfl (h0.now hH25 (n := 1) rfl).is (by omega)) ?_
     refine oA hH25 rfl rfl (ops_nil (thn_n (seq (seq (region (oM hH25 rfl rfl ?_))))))
     refine ops_y hH25 rfl rfl (yv_len T.sl39 rfl (Rd.from (h0.now hH25 (n := 1) rfl) (lo := 1) (by omega)).is) ?_
     refine oM hH25 rfl rfl ?_
     refine ops_y hH25 rfl rfl (yv_len T.sl95 rfl (Heap.rdw T.el95_encBo hH25 (n := 0) rfl).is) ?_
     refine ops_y hH25 rfl rfl (yv_neq rfl rfl) ?_
     refine ops_nil (thn_n ?_)
     by_cases hc26 : ((g.drop 1).length : Int) = (P.length : Int)
     ·skip
      have hlen : (g.drop 1).length = P.length := by omega
      have hcond : (B.rs0 m n g true).length = (B.sd m n).length ∧ ((B.sd m n).all id = true ∨ 1 ≤ g.length) := ⟨by rw [hrs, hsP]; omega, .inr (by omega)⟩
      refine cond_f rfl (not_decide_n hc26) ?_
      refine skip (thn_n (seq (seq (region (oM hH25 rfl rfl ?_)))))
      refine ops_y hH25 rfl rfl (yv_len T.sl39 rfl (Rd.from (h0.now hH25 (n := 1) rfl) (lo := 1) (by omega)).is) ?_
      refine oM hH25 rfl rfl (ops_nil (thn_n (block ?_)))
      refine loop (S := Nat) (fun k => [(61, (.int .i64 (k : Int))), (15, (.int .u64 (((B.dnTo ((nth g 0), (nth g 0)) (g.drop 1) P k).1).toNat : Int))), (16, (.int .u64 (((B.dnTo ((nth g 0), (nth g 0)) (g.drop 1) P k).2).toNat : Int))), (8, (.int .u64 0)), (9, (.int .u64 0)), (10, (.bool false)), (11, v_11), (59, (cutv v 1 1 g.length)), (60, (.int .i64 ((g.drop 1).length : Int)))]) (fun k w1 => Heap [ow lo_11 hi_11 4 1 encBo v_11 P, base w] w1 ∧ k ≤ (g.drop 1).length) (fun k => (g.drop 1).length - k) (0) (uC rfl (uC rfl (uC rfl (uC rfl (uC rfl (uC rfl (uC rfl (uC rfl (uC rfl (Sub.nil _)))))))))) ?_ ?_
      ·exact ⟨hH25, by omega⟩
      ·rintro k w27 ⟨hH28, hk⟩
       show Holds _ _ _ _ _ [(61, (.int .i64 (k : Int))), (15, (.int .u64 (((B.dnTo ((nth g 0), (nth g 0)) (g.drop 1) P k).1).toNat : Int))), (16, (.int .u64 (((B.dnTo ((nth g 0), (nth g 0)) (g.drop 1) P k).2).toNat : Int))), (8, (.int .u64 0)), (9, (.int .u64 0)), (10, (.bool false)), (11, v_11), (59, (cutv v 1 1 g.length)), (60, (.int .i64 ((g.drop 1).length : Int)))] _ _
       refine seq (region ?_)
       refine ops_y hH28 rfl rfl (yv_lss rfl rfl) ?_
       refine ops_nil (thn_n (seq ?_))
       by_cases hc29 : (k : Int) < ((g.drop 1).length : Int)
       ·skip
        refine cond_t rfl (dT hc29) ?_
        refine skip (thn_n (seq (block (seq (region (oM hH28 rfl rfl ?_))))))
        refine ops_y hH28 rfl rfl (yv_index T.sl39 rfl rfl (Rd.from (h0.now hH28 (n := 1) rfl) (lo := 1) (by omega)).is (by omega)) ?_
        refine ops_y hH28 rfl rfl (yv_load T.one32 rfl (fun _ hw => Rd.at (Rd.from (h0.now hw (n := 1) rfl) (lo := 1) (by omega)) (i := (k : Int)) (by omega) (j := 0) rfl)) ?_
        refine oA hH28 rfl rfl (oA hH28 rfl rfl (ops_nil (thn_n (seq (seq (region (oM hH28 rfl rfl (oM hH28 rfl rfl ?_))))))))
        refine ops_y hH28 rfl rfl (yv_len T.sl95 rfl (Heap.rdw T.el95_encBo hH28 (n := 0) rfl).is) ?_
        refine ops_y hH28 rfl rfl (yv_sub rfl rfl (by omega)) ?_
        refine oM hH28 rfl rfl ?_
        refine ops_y hH28 rfl rfl (yv_sub rfl rfl (by omega)) ?_
        refine ops_y hH28 rfl rfl (yv_index T.sl95 rfl rfl (Heap.rdw T.el95_encBo hH28 (n := 0) rfl).is (by omega)) ?_
        refine ops_y hH28 rfl rfl (yv_load T.one4 rfl (fun _ hw => Rd.at (Heap.rdw T.el95_encBo hw (n := 0) rfl) (i := ((P.length : Int) - 1) - (k : Int)) (by omega) (j := 0) rfl)) ?_
        refine ops_nil (thn_n ?_)
        by_cases hc30 : (nth P (((P.length : Int) - 1) - (k : Int))) = true
        ·skip
         have hbt : (nth P ((P.length : Int) - 1 - (k : Int))) = true := hc30
         refine cond_t rfl hc30 ?_
         refine seq (region (oM hH28 rfl rfl (oM hH28 rfl rfl ?_)))
         refine op_fnV rfl rfl rfl hH28 (c76 (x := (B.dnTo ((nth g 0), (nth g 0)) (g.drop 1) P k).2) (y := nth (g.drop 1) (k : Int)) (hG.now hH28 (n := 1) rfl)) (fun w31 hH32 => ?_)
         refine oA hH32 rfl rfl (ops_nil (thn_n (exit (thn_x (blk_here (thn_n (region ?_)))))))
         refine ops_y hH32 rfl rfl (yv_add rfl rfl (by omega)) ?_
         refine oM hH32 rfl rfl (ops_nil ?_)
         refine lp_n (k + 1) (uC rfl (Sub.cons (congrArg (fun z : Int => some (Value.int .u64 z)) (by rw [B.dnTo_succ hlen (by omega)]; first | rw [B.dn1_t hbt] | rw [B.dn1_f hbt])) (Sub.cons (congrArg (fun z : Int => some (Value.int .u64 z)) (by rw [B.dnTo_succ hlen (by omega)]; first | rw [B.dn1_t hbt] | rw [B.dn1_f hbt])) (uC rfl (uC rfl (uC rfl (uC rfl (uC rfl (uC rfl (Sub.nil _)))))))))) ?_ ?_
         ·exact ⟨hH32, by omega⟩
         ·first | (dsimp only; omega) | (show _ < _; omega)
        ·skip
         have hbt : ¬ (nth P ((P.length : Int) - 1 - (k : Int))) = true := by have h := (Bool.eq_false_iff.2 hc30); rw [h]; decide
         refine cond_f rfl (Bool.eq_false_iff.2 hc30) ?_
         refine skip (thn_n (region (oM hH28 rfl rfl (oM hH28 rfl rfl ?_))))
         refine op_fnV rfl rfl rfl hH28 (c76 (x := nth (g.drop 1) (k : Int)) (y := (B.dnTo ((nth g 0), (nth g 0)) (g.drop 1) P k).1) (hG.now hH28 (n := 1) rfl)) (fun w33 hH34 => ?_)
         refine oM hH34 rfl rfl (oM hH34 rfl rfl ?_)
         refine op_fnV rfl rfl rfl hH34 (c76 (x := nth (g.drop 1) (k : Int)) (y := (B.dnTo ((nth g 0), (nth g 0)) (g.drop 1) P k).2) (hG.now hH34 (n := 1) rfl)) (fun w35 hH36 => ?_)
         refine oA hH36 rfl rfl (oA hH36 rfl rfl (ops_nil (blk_n (thn_n (region ?_)))))
         refine ops_y hH36 rfl rfl (yv_add rfl rfl (by omega)) ?_
         refine oM hH36 rfl rfl (ops_nil ?_)
         refine lp_n (k + 1) (uC rfl (Sub.cons (congrArg (fun z : Int => some (Value.int .u64 z)) (by rw [B.dnTo_succ hlen (by omega)]; first | rw [B.dn1_t hbt] | rw [B.dn1_f hbt])) (Sub.cons (congrArg (fun z : Int => some (Value.int .u64 z)) (by rw [B.dnTo_succ hlen (by omega)]; first | rw [B.dn1_t hbt] | rw [B.dn1_f hbt])) (uC rfl (uC rfl (uC rfl (uC rfl (uC rfl (uC rfl (Sub.nil _)))))))))) ?_ ?_
         ·exact ⟨hH36, by omega⟩
         ·first | (dsimp only; omega) | (show _ < _; omega)
       ·skip
        refine cond_f rfl (dF hc29) ?_
        refine exit (thn_x (lp_x (blk_here (thn_n (seq (region (oM hH28 rfl rfl (oM hH28 rfl rfl (oA hH28 rfl rfl ?_)))))))))
        refine oA hH28 rfl rfl (oA hH28 rfl rfl (ops_nil (thn_n (ret ?_))))
        have hH37 := (hH28.sub (sC sR))
        refine fin hH37 (fun w' hf => (res3 rfl (show RV _ _ _ (.tmp 8) _ from rfl) (show RV _ _ _ (.tmp 9) _ from rfl) (show RV _ _ _ (.tmp 10) _ from rfl))) (fun w' hf => ?_)
        have hall2 := B.dnTo_all (z := ((nth g 0), (nth g 0))) (k := k) hlen (by omega)
        have hy := B.gn_yes (m := m) (n := n) (g := g) (o := o) hcond
        rw [hbs, hrs, hsP, ← hall2] at hy
        exact tupR (p := B.gn m n g o) hy
     ·skip
      have hno : ¬ ((B.rs0 m n g true).length = (B.sd m n).length ∧ ((B.sd m n).all id = true ∨ 1 ≤ g.length)) := fun h => by have h1 := h.1; rw [hrs, hsP] at h1; omega
      refine cond_t rfl (not_decide_t hc26) ?_
      refine seq (region (oA hH25 rfl rfl (oA hH25 rfl rfl (oA hH25 rfl rfl (ops_nil (thn_n (ret (thn_r ?_))))))))
      have hH38 := (hH25.sub (sC sR))
      refine fin hH38 (fun w' hf => (res3 rfl (show RV _ _ _ (.tmp 8) _ from rfl) (show RV _ _ _ (.tmp 9) _ from rfl) (show RV _ _ _ (.tmp 10) _ from rfl))) (fun w' hf => ?_)
      exact tupR (p := B.gn m n g o) (a := 0) (b := 0) (B.gn_no hno)
   ·skip
    have hall : (B.sd m n).all id = true := by rw [hsP]; simpa using (Bool.eq_false_iff.2 hc20)
    have hbs := B.bs0_t (g := g) (o := o) hall
    have hrs := B.rs0_t (g := g) hall
    refine cond_f rfl (Bool.eq_false_iff.2 hc20) ?_
    refine skip (thn_n (seq (seq (region (oM hH3 rfl rfl ?_)))))
    refine ops_y hH3 rfl rfl (yv_len T.sl39 rfl (h0.now hH3 (n := 1) rfl).is) ?_
    refine oM hH3 rfl rfl ?_
    refine ops_y hH3 rfl rfl (yv_len T.sl95 rfl (Heap.rdw T.el95_encBo hH3 (n := 0) rfl).is) ?_
    refine ops_y hH3 rfl rfl (yv_neq rfl rfl) ?_
    refine ops_nil (thn_n ?_)
    by_cases hc39 : (g.length : Int) = (P.length : Int)
    ·skip
     have hlen : g.length = P.length := by omega
     have hcond : (B.rs0 m n g true).length = (B.sd m n).length ∧ ((B.sd m n).all id = true ∨ 1 ≤ g.length) := ⟨by rw [hrs, hsP]; omega, .inl hall⟩
     refine cond_f rfl (not_decide_n hc39) ?_
     refine skip (thn_n (seq (seq (region (oM hH3 rfl rfl ?_)))))
     refine ops_y hH3 rfl rfl (yv_len T.sl39 rfl (h0.now hH3 (n := 1) rfl).is) ?_
     refine oM hH3 rfl rfl (ops_nil (thn_n (block ?_)))
     refine loop (S := Nat) (fun k => [(61, (.int .i64 (k : Int))), (15, (.int .u64 (((B.dnTo (o, o) g P k).1).toNat : Int))), (16, (.int .u64 (((B.dnTo (o, o) g P k).2).toNat : Int))), (8, (.int .u64 0)), (9, (.int .u64 0)), (10, (.bool false)), (11, v_11), (59, v), (60, (.int .i64 (g.length : Int)))]) (fun k w1 => Heap [ow lo_11 hi_11 4 1 encBo v_11 P, base w] w1 ∧ k ≤ g.length) (fun k => g.length - k) (0) (uC rfl (uC rfl (uC rfl (uC rfl (uC rfl (uC rfl (uC rfl (uC rfl (uC rfl (Sub.nil _)))))))))) ?_ ?_
     ·exact ⟨hH3, by omega⟩
     ·rintro k w40 ⟨hH41, hk⟩
      show Holds _ _ _ _ _ [(61, (.int .i64 (k : Int))), (15, (.int .u64 (((B.dnTo (o, o) g P k).1).toNat : Int))), (16, (.int .u64 (((B.dnTo (o, o) g P k).2).toNat : Int))), (8, (.int .u64 0)), (9, (.int .u64 0)), (10, (.bool false)), (11, v_11), (59, v), (60, (.int .i64 (g.length : Int)))] _ _
      refine seq (region ?_)
      refine ops_y hH41 rfl rfl (yv_lss rfl rfl) ?_
      refine ops_nil (thn_n (seq ?_))
      by_cases hc42 : (k : Int) < (g.length : Int)
      ·skip
       refine cond_t rfl (dT hc42) ?_
       refine skip (thn_n (seq (block (seq (region (oM hH41 rfl rfl ?_))))))
       refine ops_y hH41 rfl rfl (yv_index T.sl39 rfl rfl (h0.now hH41 (n := 1) rfl).is (by omega)) ?_
       refine ops_y hH41 rfl rfl (yv_load T.one32 rfl (fun _ hw => Rd.at (h0.now hw (n := 1) rfl) (i := (k : Int)) (by omega) (j := 0) rfl)) ?_
       refine oA hH41 rfl rfl (oA hH41 rfl rfl (ops_nil (thn_n (seq (seq (region (oM hH41 rfl rfl (oM hH41 rfl rfl ?_))))))))
       refine ops_y hH41 rfl rfl (yv_len T.sl95 rfl (Heap.rdw T.el95_encBo hH41 (n := 0) rfl).is) ?_
       refine ops_y hH41 rfl rfl (yv_sub rfl rfl (by omega)) ?_
       refine oM hH41 rfl rfl ?_
       refine ops_y hH41 rfl rfl (yv_sub rfl rfl (by omega)) ?_
       refine ops_y hH41 rfl rfl (yv_index T.sl95 rfl rfl (Heap.rdw T.el95_encBo hH41 (n := 0) rfl).is (by omega)) ?_
       refine ops_y hH41 rfl rfl (yv_load T.one4 rfl (fun _ hw => Rd.at (Heap.rdw T.el95_encBo hw (n := 0) rfl) (i := ((P.length : Int) - 1) - (k : Int)) (by omega) (j := 0) rfl)) ?_
       refine ops_nil (thn_n ?_)
       by_cases hc43 : (nth P (((P.length : Int) - 1) - (k : Int))) = true
       ·skip
        have hbt : (nth P ((P.length : Int) - 1 - (k : Int))) = true := hc43
        refine cond_t rfl hc43 ?_
        refine seq (region (oM hH41 rfl rfl (oM hH41 rfl rfl ?_)))
        refine op_fnV rfl rfl rfl hH41 (c76 (x := (B.dnTo (o, o) g P k).2) (y := nth g (k : Int)) (hG.now hH41 (n := 1) rfl)) (fun w44 hH45 => ?_)
        refine oA hH45 rfl rfl (ops_nil (thn_n (exit (thn_x (blk_here (thn_n (region ?_)))))))
        refine ops_y hH45 rfl rfl (yv_add rfl rfl (by omega)) ?_
        refine oM hH45 rfl rfl (ops_nil ?_)
        refine lp_n (k + 1) (uC rfl (Sub.cons (congrArg (fun z : Int => some (Value.int .u64 z)) (by rw [B.dnTo_succ hlen (by omega)]; first | rw [B.dn1_t hbt] | rw [B.dn1_f hbt])) (Sub.cons (congrArg (fun z : Int => some (Value.int .u64 z)) (by rw [B.dnTo_succ hlen (by omega)]; first | rw [B.dn1_t hbt] | rw [B.dn1_f hbt])) (uC rfl (uC rfl (uC rfl (uC rfl (uC rfl (uC rfl (Sub.nil _)))))))))) ?_ ?_
        ·exact ⟨hH45, by omega⟩
        ·first | (dsimp only; omega) | (show _ < _; omega)
       ·skip
        have hbt : ¬ (nth P ((P.length : Int) - 1 - (k : Int))) = true := by have h := (Bool.eq_false_iff.2 hc43); rw [h]; decide
        refine cond_f rfl (Bool.eq_false_iff.2 hc43) ?_
        refine skip (thn_n (region (oM hH41 rfl rfl (oM hH41 rfl rfl ?_))))
        refine op_fnV rfl rfl rfl hH41 (c76 (x := nth g (k : Int)) (y := (B.dnTo (o, o) g P k).1) (hG.now hH41 (n := 1) rfl)) (fun w46 hH47 => ?_)
        refine oM hH47 rfl rfl (oM hH47 rfl rfl ?_)
        refine op_fnV rfl rfl rfl hH47 (c76 (x := nth g (k : Int)) (y := (B.dnTo (o, o) g P k).2) (hG.now hH47 (n := 1) rfl)) (fun w48 hH49 => ?_)
        refine oA hH49 rfl rfl (oA hH49 rfl rfl (ops_nil (blk_n (thn_n (region ?_)))))
        refine ops_y hH49 rfl rfl (yv_add rfl rfl (by omega)) ?_
        refine oM hH49 rfl rfl (ops_nil ?_)
        refine lp_n (k + 1) (uC rfl (Sub.cons (congrArg (fun z : Int => some (Value.int .u64 z)) (by rw [B.dnTo_succ hlen (by omega)]; first | rw [B.dn1_t hbt] | rw [B.dn1_f hbt])) (Sub.cons (congrArg (fun z : Int => some (Value.int .u64 z)) (by rw [B.dnTo_succ hlen (by omega)]; first | rw [B.dn1_t hbt] | rw [B.dn1_f hbt])) (uC rfl (uC rfl (uC rfl (uC rfl (uC rfl (uC rfl (Sub.nil _)))))))))) ?_ ?_
        ·exact ⟨hH49, by omega⟩
        ·first | (dsimp only; omega) | (show _ < _; omega)
      ·skip
       refine cond_f rfl (dF hc42) ?_
       refine exit (thn_x (lp_x (blk_here (thn_n (seq (region (oM hH41 rfl rfl (oM hH41 rfl rfl (oA hH41 rfl rfl ?_)))))))))
       refine oA hH41 rfl rfl (oA hH41 rfl rfl (ops_nil (thn_n (ret ?_))))
       have hH50 := (hH41.sub (sC sR))
       refine fin hH50 (fun w' hf => (res3 rfl (show RV _ _ _ (.tmp 8) _ from rfl) (show RV _ _ _ (.tmp 9) _ from rfl) (show RV _ _ _ (.tmp 10) _ from rfl))) (fun w' hf => ?_)
       have hall2 := B.dnTo_all (z := (o, o)) (k := k) hlen (by omega)
       have hy := B.gn_yes (m := m) (n := n) (g := g) (o := o) hcond
       rw [hbs, hrs, hsP, ← hall2] at hy
       exact tupR (p := B.gn m n g o) hy
    ·skip
     have hno : ¬ ((B.rs0 m n g true).length = (B.sd m n).length ∧ ((B.sd m n).all id = true ∨ 1 ≤ g.length)) := fun h => by have h1 := h.1; rw [hrs, hsP] at h1; omega
     refine cond_t rfl (not_decide_t hc39) ?_
     refine seq (region (oA hH3 rfl rfl (oA hH3 rfl rfl (oA hH3 rfl rfl (ops_nil (thn_n (ret (thn_r ?_))))))))
     have hH51 := (hH3.sub (sC sR))
     refine fin hH51 (fun w' hf => (res3 rfl (show RV _ _ _ (.tmp 8) _ from rfl) (show RV _ _ _ (.tmp 9) _ from rfl) (show RV _ _ _ (.tmp 10) _ from rfl))) (fun w' hf => ?_)
     exact tupR (p := B.gn m n g o) (a := 0) (b := 0) (B.gn_no hno)
end Go.Fip
namespace Go.Fip
open Go.Proofs Go.RowKit
theorem c34 {v : Value} {g : List UInt64} {m n : Int} {o r : UInt64} {w : World} (hG : Gl w) (h0 : Rd encW 1 v g w) (hp : g.length ≤ 1000)  :
  Fn Tryz.prog 34 [(.int .i64 m), (.int .i64 n), v, (.int .u64 (o.toNat : Int)), (.int .u64 (r.toNat : Int))].toArray w (fun u _ => u = .int .i64 (B.cg m n g o r)) := by
 refine fn_of' (args := [(.int .i64 m), (.int .i64 n), v, (.int .u64 (o.toNat : Int)), (.int .u64 (r.toNat : Int))]) Tryz.func34 rfl (ent Tryz.func34 (by kernel_rfl) rfl) rfl rfl (fun hH => ?_)
 refine seq (region (oA hH rfl rfl (ops_nil (thn_n (seq (block (seq (region (oM hH rfl rfl ?_)))))))))
 refine op_lit (us := [(0, (.int .i64 n))]) T.el131_encI [n] rfl (by decide) rfl (fun a ha => by simp [ha.ev (show ev _ (.tmp 15) = some _ from rfl)]) (fun w => by kernel_rfl) hH (fun u1 lo3 hi4 w2 hH5 => ?_)
 refine op_fnV rfl rfl rfl hH5 (c57_1 (Heap.rdw T.el131_encI hH5 (n := 0) rfl)) (fun w6 hH7 => ?_)
 refine ops_y hH7 rfl rfl (yv_not rfl) ?_
 refine oA hH7 rfl rfl (ops_nil (thn_n ?_))
 by_cases hc8 : 1 ≤ n ∧ n ≤ 24
 ·skip
  refine cond_f rfl (not_decide_n hc8) ?_
  refine seq (region (oM hH7 rfl rfl (oM hH7 rfl rfl ?_)))
  refine op_lit (us := [(0, (.int .i64 m))]) T.el131_encI [m] rfl (by decide) rfl (fun a ha => by simp [ha.ev (show ev _ (.tmp 21) = some _ from rfl)]) (fun w => by kernel_rfl) hH7 (fun u9 lo11 hi12 w10 hH13 => ?_)
  refine op_fnV rfl rfl rfl hH13 (c57_1 (Heap.rdw T.el131_encI hH13 (n := 0) rfl)) (fun w14 hH15 => ?_)
  refine ops_y hH15 rfl rfl (yv_not rfl) ?_
  refine oA hH15 rfl rfl (ops_nil (thn_n ?_))
  by_cases hc16 : 1 ≤ m ∧ m ≤ n
  ·skip
   refine cond_f rfl (not_decide_n hc16) ?_
   refine skip (blk_n (thn_n (seq (region ?_))))
   refine ops_y hH15 rfl rfl (yv_cast (show m = (m.toNat : Int) by omega) (yv_move rfl)) ?_
   refine ops_y hH15 rfl rfl (yv_cast (show n = (n.toNat : Int) by omega) (yv_move rfl)) ?_
   refine oM hH15 rfl rfl (oM hH15 rfl rfl ?_)
   refine op_fnV rfl rfl rfl hH15 (c79 (m := m.toNat) (n := n.toNat) (g := g) (o := o) (hG.now hH15 (n := 2) rfl) (h0.now hH15 (n := 2) rfl) (by omega) (by omega) (by omega) (by omega)) (fun w17 hH18 => ?_)
   refine oM hH18 rfl rfl (ops_y hH18 rfl rfl (yv_extract rfl rfl) (ops_y hH18 rfl rfl (yv_extract rfl rfl) (ops_y hH18 rfl rfl (yv_extract rfl rfl) (oA hH18 rfl rfl (oA hH18 rfl rfl (oA hH18 rfl rfl (ops_nil (thn_n (seq ?_)))))))))
   refine seq (region (oM hH18 rfl rfl ?_))
   refine ops_y hH18 rfl rfl (yv_not rfl) ?_
   refine oM hH18 rfl rfl ?_
   by_cases hc19 : (!((B.gn m.toNat n.toNat g o).2.2)) = true
   ·skip
    have hbad : ¬ ((B.rt m.toNat n.toNat g true o).2.2 = true ∧ (B.rt m.toNat n.toNat g true o).1 = o ∧ (B.rt m.toNat n.toNat g true o).2.1 = r) := fun h => (fun h => by have h2 := hc19; rw [h.1] at h2; cases h2) ((B.gn_rt (by omega) (by omega)).2 h)
    refine guard_no rfl rfl hc19 rfl ?_
    refine guard_no rfl rfl hc19 rfl ?_
    refine guard_no rfl rfl hc19 rfl ?_
    refine ops_y hH18 rfl rfl (yv_pick_t rfl hc19 rfl) ?_
    refine oM hH18 rfl rfl (guard_no rfl rfl rfl rfl (guard_no rfl rfl rfl rfl (guard_no rfl rfl rfl rfl ?_)))
    refine ops_y hH18 rfl rfl (yv_pick_t rfl rfl rfl) ?_
    refine ops_nil (thn_n ?_)
    refine cond_t rfl rfl ?_
    refine seq (region (oA hH18 rfl rfl (ops_nil (thn_n (ret (thn_r ?_))))))
    have hH20 := (hH18.sub (sC (sC sR)))
    refine fin hH20 (fun w' hf => (res1 rfl (show RV _ _ _ (.tmp 10) _ from rfl))) (fun w' hf => ?_)
    first | exact congrArg (Value.int .i64) (B.cg1 (by omega)).symm | exact congrArg (Value.int .i64) (B.cg2 (by omega) (by omega)).symm | exact congrArg (Value.int .i64) (B.cg3 (by omega) (by omega) hbad).symm | exact congrArg (Value.int .i64) (B.cg4 (by omega) (by omega) hgood).symm
   ·skip
    have hok : (B.gn m.toNat n.toNat g o).2.2 = true := by simpa using (Bool.eq_false_iff.2 hc19)
    refine guard_yes rfl rfl (Bool.eq_false_iff.2 hc19) ?_
    refine oM hH18 rfl rfl ?_
    refine guard_yes rfl rfl (Bool.eq_false_iff.2 hc19) ?_
    refine oM hH18 rfl rfl ?_
    refine guard_yes rfl rfl (Bool.eq_false_iff.2 hc19) ?_
    refine ops_y hH18 rfl rfl (yv_neq rfl rfl) ?_
    refine ops_y hH18 rfl rfl (yv_pick_f rfl (Bool.eq_false_iff.2 hc19) rfl) ?_
    refine oM hH18 rfl rfl ?_
    by_cases hc21 : (((B.gn m.toNat n.toNat g o).1).toNat : Int) = (o.toNat : Int)
    ·skip
     have hok1 : (B.gn m.toNat n.toNat g o).1 = o := toNatI.1 (by first | assumption | omega)
     refine guard_yes rfl rfl (not_decide_n hc21) ?_
     refine oM hH18 rfl rfl ?_
     refine guard_yes rfl rfl (not_decide_n hc21) ?_
     refine oM hH18 rfl rfl ?_
     refine guard_yes rfl rfl (not_decide_n hc21) ?_
     refine ops_y hH18 rfl rfl (yv_neq rfl rfl) ?_
     refine ops_y hH18 rfl rfl (yv_pick_f rfl (not_decide_n hc21) rfl) ?_
     refine ops_nil (thn_n ?_)
     by_cases hc22 : (((B.gn m.toNat n.toNat g o).2.1).toNat : Int) = (r.toNat : Int)
     ·skip
      have hok2 : (B.gn m.toNat n.toNat g o).2.1 = r := toNatI.1 (by first | assumption | omega)
      have hgood : ((B.rt m.toNat n.toNat g true o).2.2 = true ∧ (B.rt m.toNat n.toNat g true o).1 = o ∧ (B.rt m.toNat n.toNat g true o).2.1 = r) := (B.gn_rt (by omega) (by omega)).1 (⟨hok, hok1, hok2⟩)
      refine cond_f rfl (not_decide_n hc22) ?_
      refine skip (thn_n (seq (region (oA hH18 rfl rfl (ops_nil (thn_n (ret ?_)))))))
      have hH23 := (hH18.sub (sC (sC sR)))
      refine fin hH23 (fun w' hf => (res1 rfl (show RV _ _ _ (.tmp 10) _ from rfl))) (fun w' hf => ?_)
      first | exact congrArg (Value.int .i64) (B.cg1 (by omega)).symm | exact congrArg (Value.int .i64) (B.cg2 (by omega) (by omega)).symm | exact congrArg (Value.int .i64) (B.cg3 (by omega) (by omega) hbad).symm | exact congrArg (Value.int .i64) (B.cg4 (by omega) (by omega) hgood).symm
     ·skip
      have hbad : ¬ ((B.rt m.toNat n.toNat g true o).2.2 = true ∧ (B.rt m.toNat n.toNat g true o).1 = o ∧ (B.rt m.toNat n.toNat g true o).2.1 = r) := fun h => (fun h => absurd (toNatI.2 h.2.2) (by first | assumption | omega)) ((B.gn_rt (by omega) (by omega)).2 h)
      refine cond_t rfl (not_decide_t hc22) ?_
      refine seq (region (oA hH18 rfl rfl (ops_nil (thn_n (ret (thn_r ?_))))))
      have hH24 := (hH18.sub (sC (sC sR)))
      refine fin hH24 (fun w' hf => (res1 rfl (show RV _ _ _ (.tmp 10) _ from rfl))) (fun w' hf => ?_)
      first | exact congrArg (Value.int .i64) (B.cg1 (by omega)).symm | exact congrArg (Value.int .i64) (B.cg2 (by omega) (by omega)).symm | exact congrArg (Value.int .i64) (B.cg3 (by omega) (by omega) hbad).symm | exact congrArg (Value.int .i64) (B.cg4 (by omega) (by omega) hgood).symm
    ·skip
     have hbad : ¬ ((B.rt m.toNat n.toNat g true o).2.2 = true ∧ (B.rt m.toNat n.toNat g true o).1 = o ∧ (B.rt m.toNat n.toNat g true o).2.1 = r) := fun h => (fun h => absurd (toNatI.2 h.2.1) (by first | assumption | omega)) ((B.gn_rt (by omega) (by omega)).2 h)
     refine guard_no rfl rfl (not_decide_t hc21) rfl ?_
     refine guard_no rfl rfl (not_decide_t hc21) rfl ?_
     refine guard_no rfl rfl (not_decide_t hc21) rfl ?_
     refine ops_y hH18 rfl rfl (yv_pick_t rfl (not_decide_t hc21) rfl) ?_
     refine ops_nil (thn_n ?_)
     refine cond_t rfl rfl ?_
     refine seq (region (oA hH18 rfl rfl (ops_nil (thn_n (ret (thn_r ?_))))))
     have hH25 := (hH18.sub (sC (sC sR)))
     refine fin hH25 (fun w' hf => (res1 rfl (show RV _ _ _ (.tmp 10) _ from rfl))) (fun w' hf => ?_)
     first | exact congrArg (Value.int .i64) (B.cg1 (by omega)).symm | exact congrArg (Value.int .i64) (B.cg2 (by omega) (by omega)).symm | exact congrArg (Value.int .i64) (B.cg3 (by omega) (by omega) hbad).symm | exact congrArg (Value.int .i64) (B.cg4 (by omega) (by omega) hgood).symm
  ·skip
   refine cond_t rfl (not_decide_t hc16) ?_
   refine seq (region (oA hH15 rfl rfl (ops_nil (thn_n (ret (blk_r (thn_r ?_)))))))
   have hH26 := (hH15.sub (sC (sC sR)))
   refine fin hH26 (fun w' hf => (res1 rfl (show RV _ _ _ (.tmp 10) _ from rfl))) (fun w' hf => ?_)
   first | exact congrArg (Value.int .i64) (B.cg1 (by omega)).symm | exact congrArg (Value.int .i64) (B.cg2 (by omega) (by omega)).symm | exact congrArg (Value.int .i64) (B.cg3 (by omega) (by omega) hbad).symm | exact congrArg (Value.int .i64) (B.cg4 (by omega) (by omega) hgood).symm
 ·skip
  refine cond_t rfl (not_decide_t hc8) ?_
  refine seq (region (oA hH7 rfl rfl (ops_nil (thn_n (ret (blk_r (thn_r ?_)))))))
  have hH27 := (hH7.sub (sC sR))
  refine fin hH27 (fun w' hf => (res1 rfl (show RV _ _ _ (.tmp 10) _ from rfl))) (fun w' hf => ?_)
  first | exact congrArg (Value.int .i64) (B.cg1 (by omega)).symm | exact congrArg (Value.int .i64) (B.cg2 (by omega) (by omega)).symm | exact congrArg (Value.int .i64) (B.cg3 (by omega) (by omega) hbad).symm | exact congrArg (Value.int .i64) (B.cg4 (by omega) (by omega) hgood).symm
structure B.Outs (es : Array MapEntry) (clock : Nat) (m : B.Ms) : Prop where
 ents : Ents B.kvS B.vvW es clock m
 bd : ∀ p ∈ m, (0 ≤ p.1.1 ∧ p.1.1 ≤ 64) ∧ 0 ≤ p.1.2 ∧ p.1.2 ≤ 64
theorem B.Outs.entry {es : Array MapEntry} {clock : Nat} {m : B.Ms} (h : B.Outs es clock m) {e : MapEntry} (he : e ∈ es.toList) : ∃ a b : Int, e.key = B.kvS (a, b) ∧ (∃ x, e.val = B.vvW x) ∧ (0 ≤ a ∧ a ≤ 64) ∧ 0 ≤ b ∧ b ≤ 64 := by
 obtain ⟨k, v, h1, h2, h3⟩ := h.ents.entry he
 have := h.bd _ (find_mem h3)
 exact ⟨k.1, k.2, h1, ⟨v, h2⟩, this.1, this.2⟩
theorem B.Outs.del {es es' : Array MapEntry} {clock : Nat} {m : B.Ms} {k : Int × Int} (h : B.Outs es clock m) (he : Ents B.kvS B.vvW es' clock (Go.Fip.del k m)) : B.Outs es' clock (Go.Fip.del k m) := ⟨he, fun p hp => h.bd p (B.del_mem hp)⟩
theorem B.Good.bd {l : List En} {m : B.Ms} (h : B.Good l m) : ∀ p ∈ m, (0 ≤ p.1.1 ∧ p.1.1 ≤ 64) ∧ 0 ≤ p.1.2 ∧ p.1.2 ≤ 64 := fun p hp => by
 obtain ⟨a, b, e, h1, h2, _⟩ := h p hp
 rw [e]
 exact ⟨⟨by omega, by omega⟩, by omega, by omega⟩
theorem unseen_sub {es es' : Array MapEntry} {seen : Array Nat} (hs : es'.toList.Sublist es.toList) : unseen es' seen ≤ unseen es seen := (hs.filter _).length_le
theorem c77 {db kb t : Nat} {v : Value} {l : List En} {m : B.Ms} {w : World} (hb : DeskK db kb v l w) (hkm : Mp B.kvS B.vvW kb m w) (hg : B.Good l m) (hG : Gl w) (hin : B.InR l) (hn : l.length ≤ 24) (ht1 : 1 ≤ t) (ht : t ≤ l.length) :
  FnO Tryz.prog 77 [(.pointer (some ⟨db, 0, none⟩)), (.int .i64 (t : Int))].toArray w kb (kb + 1) (fun u w => Own 32 1 encW u (B.gw l t true) w) := by
 refine fnO_of (args := [(.pointer (some ⟨db, 0, none⟩)), (.int .i64 (t : Int))]) Tryz.func77 rfl (ent Tryz.func77 (by kernel_rfl) rfl) rfl rfl (mp_ok hkm) (fun hH => ?_)
 refine seq (region (oA hH rfl rfl (ops_nil (thn_n (seq (region (oA hH rfl rfl (ops_nil (thn_n ?_)))))))))
 refine seq (region (oM hH rfl rfl ?_))
 refine ops_y hH rfl rfl (yv_nilck rfl) ?_
 refine ops_y hH rfl rfl (yv_field T.f138_0 rfl) ?_
 refine ops_y hH rfl rfl (yv_field T.f24_0 rfl) ?_
 refine ops_y hH rfl rfl (yv_load T.one22 rfl (fun _ hw => bx_cell ((hb.nowK hkm (hw.get (n := 1) rfl) (hw.get (n := 2) rfl)).1) rfl)) ?_
 refine ops_y hH rfl rfl (yv_len T.sl22 rfl ((hb.nowK hkm (hH.get (n := 1) rfl) (hH.get (n := 2) rfl)).2).is) ?_
 refine ops_y hH rfl rfl (yv_build (v := (.agg #[(.int .i64 0), (.int .i64 (l.length : Int))])) (us := [(0, (.int .i64 0)), (1, (.int .i64 (l.length : Int)))]) (fun a ha => by simp [ha.ev (show ev _ (.const (.int .i64 0)) = some _ from rfl), ha.ev (show ev _ (.tmp 18) = some _ from rfl)]) (fun w => by kernel_rfl)) ?_
 refine op_alloc (z := (.agg #[(.int .i64 0), (.int .i64 0)])) (us := [(.int .i64 0), (.int .i64 0)]) (fun _ => by kernel_rfl) rfl rfl hH (fun b1 w2 hH3 => ?_)
 refine op_store (n := 0) (j := 0) (us := [(.int .i64 0), (.int .i64 (l.length : Int))]) rfl rfl hH3 rfl T.sz143 rfl rfl rfl (by rfl) (fun w4 hH5 => ?_)
 refine ops_nil (thn_n (seq (region (oA hH5 rfl rfl (ops_nil (thn_n (seq (region (oM hH5 rfl rfl ?_)))))))))
 refine ops_y hH5 rfl rfl (yv_func rfl rfl) ?_
 refine oA hH5 rfl rfl (ops_nil (thn_n (seq (block ?_))))
 have hH6 := ow_nil (enc := encW) 32 1 hH5
 refine loop (S := Nat × Nat × Bool × List UInt64 × B.Ms × Value × Nat × Nat) (fun (a, b, wv, o, m1, v_5, lo_5, hi_5) => [(7, (.bool wv)), (5, v_5), (0, (.pointer (some ⟨db, 0, none⟩))), (1, (.int .i64 (t : Int))), (4, (.slice none 0 0)), (6, (.pointer (some ⟨b1, 0, none⟩))), (8, (.func (.func 112) #[(.pointer (some ⟨db, 0, none⟩))] #[]))]) (fun (a, b, wv, o, m1, v_5, lo_5, hi_5) w1 => Heap [ow lo_5 hi_5 32 1 encW v_5 o, bx b1 143 [(.int .i64 (a : Int)), (.int .i64 (b : Int))], mp B.kvS B.vvW kb m1, restI w kb, restJ w (kb + 1)] w1 ∧ a < t ∧ t ≤ b ∧ b ≤ l.length ∧ B.Good l m1 ∧ B.gw l t true = B.gw (B.sub l a b) (t - a) wv ++ o) (fun (a, b, wv, o, m1, v_5, lo_5, hi_5) => b - a) (0, l.length, true, [], m, (.slice none 0 0), w4.heap.size, w4.heap.size) (uC rfl (uC rfl (uC rfl (uC rfl (uC rfl (uC rfl (uC rfl (Sub.nil _)))))))) ?_ ?_
 ·exact ⟨(Heap.recastBx (n := 1) (Heap.recast (n := 0) hH6 rfl (rfl)) rfl (rfl)), by omega, by omega, Nat.le_refl _, hg, (by rw [B.sub_all, List.append_nil, Nat.sub_zero])⟩
 ·rintro ⟨a, b, wv, o, m1, v_5, lo_5, hi_5⟩ w7 ⟨hH8, hat, htb, hbl, hg, hgw⟩
  show Holds _ _ _ _ _ [(7, (.bool wv)), (5, v_5), (0, (.pointer (some ⟨db, 0, none⟩))), (1, (.int .i64 (t : Int))), (4, (.slice none 0 0)), (6, (.pointer (some ⟨b1, 0, none⟩))), (8, (.func (.func 112) #[(.pointer (some ⟨db, 0, none⟩))] #[]))] _ _
  refine seq (seq (region ?_))
  refine ops_y hH8 rfl rfl (yv_field T.f143_1 rfl) ?_
  refine ops_y hH8 rfl rfl (yv_load T.one3 rfl (fun _ hw => Heap.cellw hw (n := 1) rfl rfl)) ?_
  refine oM hH8 rfl rfl ?_
  refine ops_y hH8 rfl rfl (yv_gtr rfl rfl) ?_
  refine ops_nil (thn_n ?_)
  by_cases hc9 : (t : Int) < (b : Int)
  ·skip
   refine cond_t rfl (dT hc9) ?_
   refine skip (thn_n (block (seq ?_)))
   have hbh := B.half_lt (n := b - a) (by omega)
   have hol := congrArg List.length hgw
   rw [List.length_append] at hol
   have hol2 := B.gw_len l.length l t true rfl ht1 ht
   refine region_draw (fun w' => Heap [ow lo_5 hi_5 32 1 encW v_5 o, bx b1 143 [(.int .i64 (a : Int)), (.int .i64 (b : Int))], mp B.kvS B.vvW kb m1, restI w kb, restJ w (kb + 1)] w') T.mixed (fun w10 hr11 => ?_)
   have hH12 := hH8.redrawn hr11
   refine any_takes [0, 1, 2, 3, 4, 5, 6] (by kernel_rfl) hH12 _ _ _ (by kernel_rfl) ?_
   refine qs_y rfl rfl (yv_field T.f143_0 rfl) ?_
   refine qs_y rfl rfl (yv_load T.one3 rfl (fun _ hw => Heap.cellw hw (n := 1) rfl rfl)) ?_
   refine qs_y rfl rfl (yv_field T.f143_1 rfl) ?_
   refine qs_y rfl rfl (yv_load T.one3 rfl (fun _ hw => Heap.cellw hw (n := 1) rfl rfl)) ?_
   refine qs_y rfl rfl (yv_field T.f143_0 rfl) ?_
   refine qs_y rfl rfl (yv_load T.one3 rfl (fun _ hw => Heap.cellw hw (n := 1) rfl rfl)) ?_
   refine qs_y rfl rfl (yv_cast (show _ = ((b - a : Nat) : Int) by omega) (yv_sub rfl rfl (by omega))) ?_
   refine qs_nil ?_
   refine any_all [7] (by kernel_rfl) rfl ?_
   refine ⟨⟨_, rfl, ?_⟩, trivial⟩
   ·skip
    refine op_fnV rfl rfl rfl hH12 (c107 (by omega)) (fun w13 hH14 => ?_)
    refine ops_nil ?_
    refine ⟨hH14, ?_⟩
    refine any_takes [8, 9] (by kernel_rfl) hH14 _ _ _ (by kernel_rfl) ?_
    refine qs_y rfl rfl (yv_cast (show (a : Int) + (B.half (b - a) : Int) = ((a + B.half (b - a) : Nat) : Int) by omega) (yv_add rfl rfl (by omega))) ?_
    refine qs_y rfl rfl (yv_assign rfl) (qs_nil ?_)
    refine any_done (by kernel_rfl) ?_
    refine thn_n (seq ?_)
    refine region_draw (fun w' => Heap [ow lo_5 hi_5 32 1 encW v_5 o, bx b1 143 [(.int .i64 (a : Int)), (.int .i64 (b : Int))], mp B.kvS B.vvW kb m1, restI w kb, restJ w (kb + 1)] w') T.mixed (fun w15 hr16 => ?_)
    have hH17 := hH14.redrawn hr16
    refine any_takes [0, 1, 2, 3, 4, 5, 6, 7] (by kernel_rfl) hH17 _ _ _ (by kernel_rfl) ?_
    refine qs_y rfl rfl (yv_field T.f143_0 rfl) ?_
    refine qs_y rfl rfl (yv_load T.one3 rfl (fun _ hw => Heap.cellw hw (n := 1) rfl rfl)) ?_
    refine qM rfl rfl rfl ?_
    refine qs_y rfl rfl (yv_build (v := (.agg #[(.int .i64 (a : Int)), (.int .i64 ((a + B.half (b - a) : Nat) : Int))])) (us := [(0, (.int .i64 (a : Int))), (1, (.int .i64 ((a + B.half (b - a) : Nat) : Int)))]) (fun a ha => by simp [ha.ev (show ev _ (.tmp 36) = some _ from rfl), ha.ev (show ev _ (.tmp 37) = some _ from rfl)]) (fun w => by kernel_rfl)) ?_
    refine qM rfl rfl rfl ?_
    refine qs_y rfl rfl (yv_field T.f143_1 rfl) ?_
    refine qs_y rfl rfl (yv_load T.one3 rfl (fun _ hw => Heap.cellw hw (n := 1) rfl rfl)) ?_
    refine qs_y rfl rfl (yv_build (v := (.agg #[(.int .i64 ((a + B.half (b - a) : Nat) : Int)), (.int .i64 (b : Int))])) (us := [(0, (.int .i64 ((a + B.half (b - a) : Nat) : Int))), (1, (.int .i64 (b : Int)))]) (fun a ha => by simp [ha.ev (show ev _ (.tmp 39) = some _ from rfl), ha.ev (show ev _ (.tmp 41) = some _ from rfl)]) (fun w => by kernel_rfl)) ?_
    refine qs_nil ?_
    refine any_all [8, 9] (by kernel_rfl) rfl ?_
    refine ⟨⟨_, rfl, ?_⟩, ⟨_, rfl, ?_⟩, trivial⟩
    ·skip
     refine op_alloc (z := (.agg #[(.int .i64 0), (.int .i64 0)])) (us := [(.int .i64 0), (.int .i64 0)]) (fun _ => by kernel_rfl) rfl rfl hH17 (fun b18 w19 hH20 => ?_)
     refine ops_nil ?_
     refine ⟨(hH20.sub (sC sR)), ?_⟩
     refine any_all [9] (by kernel_rfl) rfl ?_
     refine ⟨⟨_, rfl, ?_⟩, trivial⟩
     ·skip
      refine op_alloc (z := (.agg #[(.int .i64 0), (.int .i64 0)])) (us := [(.int .i64 0), (.int .i64 0)]) (fun _ => by kernel_rfl) rfl rfl hH20 (fun b21 w22 hH23 => ?_)
      refine ops_nil ?_
      refine ⟨(hH23.sub (sC (sC sR))), ?_⟩
      refine any_all [10] (by kernel_rfl) rfl ?_
      refine ⟨⟨_, rfl, ?_⟩, trivial⟩
      ·skip
       refine op_store (n := 1) (j := 0) (us := [(.int .i64 (a : Int)), (.int .i64 ((a + B.half (b - a) : Nat) : Int))]) rfl rfl hH23 rfl T.sz143 rfl rfl rfl (by rfl) (fun w24 hH25 => ?_)
       refine ops_nil ?_
       refine ⟨(hH25.sub (sC (sC sR))), ?_⟩
       refine any_all [11] (by kernel_rfl) rfl ?_
       refine ⟨⟨_, rfl, ?_⟩, trivial⟩
       ·skip
        refine op_store (n := 0) (j := 0) (us := [(.int .i64 ((a + B.half (b - a) : Nat) : Int)), (.int .i64 (b : Int))]) rfl rfl hH25 rfl T.sz143 rfl rfl rfl (by rfl) (fun w26 hH27 => ?_)
        refine ops_nil ?_
        refine ⟨(hH27.sub (sC (sC sR))), ?_⟩
        refine any_done (by kernel_rfl) ?_
        refine thn_n (seq (seq (region (oM hH27 rfl rfl (oM hH27 rfl rfl ?_)))))
        refine ops_y hH27 rfl rfl (yv_gtr rfl rfl) ?_
        refine ops_nil (thn_n ?_)
        by_cases hc28 : ((a + B.half (b - a) : Nat) : Int) < (t : Int)
        ·skip
         have hge : ¬ t - a ≤ B.half (b - a) := by omega
         refine cond_t rfl (dT hc28) ?_
         refine seq (region ?_)
         refine ops_y hH27 rfl rfl (yv_loadA (cs := [(.int .i64 ((a + B.half (b - a) : Nat) : Int)), (.int .i64 (b : Int))]) T.agg143 rfl rfl (fun _ hw => Heap.cellsw hw (n := 0) rfl (k := 0) rfl)) ?_
         refine ops_y hH27 rfl rfl (yv_loadA (cs := [(.int .i64 (a : Int)), (.int .i64 ((a + B.half (b - a) : Nat) : Int))]) T.agg143 rfl rfl (fun _ hw => Heap.cellsw hw (n := 1) rfl (k := 0) rfl)) ?_
         refine op_store (n := 1) (j := 0) (us := [(.int .i64 ((a + B.half (b - a) : Nat) : Int)), (.int .i64 (b : Int))]) rfl rfl hH27 rfl T.sz143 rfl rfl rfl (by rfl) (fun w29 hH30 => ?_)
         refine op_store (n := 0) (j := 0) (us := [(.int .i64 (a : Int)), (.int .i64 ((a + B.half (b - a) : Nat) : Int))]) rfl rfl hH30 rfl T.sz143 rfl rfl rfl (by rfl) (fun w31 hH32 => ?_)
         refine ops_nil (thn_n (region (oA hH32 rfl rfl (ops_nil (thn_n (seq (region (oM hH32 rfl rfl ?_))))))))
         refine ops_y hH32 rfl rfl (yv_loadA (cs := [(.int .i64 (a : Int)), (.int .i64 ((a + B.half (b - a) : Nat) : Int))]) T.agg143 rfl rfl (fun _ hw => Heap.cellsw hw (n := 0) rfl (k := 0) rfl)) ?_
         refine op_fnM (g := kb) (n := 4) rfl rfl rfl hH32 rfl ⟨Nat.le_refl _, Nat.lt_succ_self _⟩ (c112 (s := a) (e := (a + B.half (b - a))) ⟨((hb.nowK hkm (hH32.get (n := 5) rfl) (hH32.get (n := 6) rfl)).1), ((hb.nowK hkm (hH32.get (n := 5) rfl) (hH32.get (n := 6) rfl)).2)⟩ (Heap.mapw hH32 (n := 4) rfl) hg (hG.nowK hkm (hH32.get (n := 5) rfl) (hH32.get (n := 6) rfl)) hin (by omega) (by omega) (by omega)) (fun u35 w33 hH34 hv36 => ?_)
         obtain ⟨hu, -⟩ := hv36
         subst hu
         obtain ⟨km38, hE39, hH37⟩ := Heap.fixMp hH34 (n := 4) rfl (fun w' h => h.2)
         refine op_lit (us := [(0, (.int .u64 ((B.root (B.sub l a (a + B.half (b - a)))).toNat : Int)))]) T.el39_encW [B.root (B.sub l a (a + B.half (b - a)))] rfl (by decide) rfl (fun a ha => by simp [ha.ev (show ev _ (.tmp 50) = some _ from rfl)]) (fun w => by kernel_rfl) hH37 (fun u40 lo42 hi43 w41 hH44 => ?_)
         refine oM hH44 rfl rfl ?_
         refine op_append (n := 0) T.el39_encW rfl rfl rfl hH44 rfl (Heap.rdw T.el39_encW hH44 (n := 3) rfl) (by first | omega | (simp only [List.length_append, List.length_cons, List.length_nil]; omega)) (fun u45 lo47 hi48 w46 hH49 => ?_)
         refine oA hH49 rfl rfl (ops_nil (thn_n (region ?_)))
         refine ops_y hH49 rfl rfl (yv_loadA (cs := [(.int .i64 ((a + B.half (b - a) : Nat) : Int)), (.int .i64 (b : Int))]) T.agg143 rfl rfl (fun _ hw => Heap.cellsw hw (n := 2) rfl (k := 0) rfl)) ?_
         refine op_store (n := 4) (j := 0) (us := [(.int .i64 ((a + B.half (b - a) : Nat) : Int)), (.int .i64 (b : Int))]) rfl rfl hH49 rfl T.sz143 rfl rfl rfl (by rfl) (fun w50 hH51 => ?_)
         refine ops_nil (blk_n ?_)
         have hH52 := (hH51.sub (List.Sublist.cons_cons _ (sC (sC (sC sR)))))
         refine lp_n ((a + B.half (b - a)), b, false, ([B.root (B.sub l a (a + B.half (b - a)))] ++ o), km38, u45, lo47, hi48) (uC rfl (uC rfl (uC rfl (uC rfl (uC rfl (uC rfl (uC rfl (Sub.nil _)))))))) ?_ ?_
         ·exact ⟨(Heap.recast (n := 0) hH52 rfl (rfl)), by omega, by omega, by omega, hE39.good, (by rw [hgw, B.gw_sub_right hbl (by omega) (by omega) hge, List.append_assoc, show t - (a + B.half (b - a)) = t - a - B.half (b - a) by omega])⟩
         ·first | (dsimp only; omega) | (show _ < _; omega)
        ·skip
         have hlt : t - a ≤ B.half (b - a) := by omega
         refine cond_f rfl (dF hc28) ?_
         refine skip (thn_n (seq (region (oM hH27 rfl rfl ?_))))
         refine ops_y hH27 rfl rfl (yv_loadA (cs := [(.int .i64 ((a + B.half (b - a) : Nat) : Int)), (.int .i64 (b : Int))]) T.agg143 rfl rfl (fun _ hw => Heap.cellsw hw (n := 0) rfl (k := 0) rfl)) ?_
         refine op_fnM (g := kb) (n := 4) rfl rfl rfl hH27 rfl ⟨Nat.le_refl _, Nat.lt_succ_self _⟩ (c112 (s := (a + B.half (b - a))) (e := b) ⟨((hb.nowK hkm (hH27.get (n := 5) rfl) (hH27.get (n := 6) rfl)).1), ((hb.nowK hkm (hH27.get (n := 5) rfl) (hH27.get (n := 6) rfl)).2)⟩ (Heap.mapw hH27 (n := 4) rfl) hg (hG.nowK hkm (hH27.get (n := 5) rfl) (hH27.get (n := 6) rfl)) hin (by omega) (by omega) (by omega)) (fun u55 w53 hH54 hv56 => ?_)
         obtain ⟨hu, -⟩ := hv56
         subst hu
         obtain ⟨km58, hE59, hH57⟩ := Heap.fixMp hH54 (n := 4) rfl (fun w' h => h.2)
         refine op_lit (us := [(0, (.int .u64 ((B.root (B.sub l (a + B.half (b - a)) b)).toNat : Int)))]) T.el39_encW [B.root (B.sub l (a + B.half (b - a)) b)] rfl (by decide) rfl (fun a ha => by simp [ha.ev (show ev _ (.tmp 50) = some _ from rfl)]) (fun w => by kernel_rfl) hH57 (fun u60 lo62 hi63 w61 hH64 => ?_)
         refine oM hH64 rfl rfl ?_
         refine op_append (n := 0) T.el39_encW rfl rfl rfl hH64 rfl (Heap.rdw T.el39_encW hH64 (n := 3) rfl) (by first | omega | (simp only [List.length_append, List.length_cons, List.length_nil]; omega)) (fun u65 lo67 hi68 w66 hH69 => ?_)
         refine oA hH69 rfl rfl (ops_nil (thn_n (region ?_)))
         refine ops_y hH69 rfl rfl (yv_loadA (cs := [(.int .i64 (a : Int)), (.int .i64 ((a + B.half (b - a) : Nat) : Int))]) T.agg143 rfl rfl (fun _ hw => Heap.cellsw hw (n := 2) rfl (k := 0) rfl)) ?_
         refine op_store (n := 4) (j := 0) (us := [(.int .i64 (a : Int)), (.int .i64 ((a + B.half (b - a) : Nat) : Int))]) rfl rfl hH69 rfl T.sz143 rfl rfl rfl (by rfl) (fun w70 hH71 => ?_)
         refine ops_nil (blk_n ?_)
         have hH72 := (hH71.sub (List.Sublist.cons_cons _ (sC (sC (sC sR)))))
         refine lp_n (a, (a + B.half (b - a)), wv, ([B.root (B.sub l (a + B.half (b - a)) b)] ++ o), km58, u65, lo67, hi68) (uC rfl (uC rfl (uC rfl (uC rfl (uC rfl (uC rfl (uC rfl (Sub.nil _)))))))) ?_ ?_
         ·exact ⟨(Heap.recast (n := 0) hH72 rfl (rfl)), by omega, by omega, by omega, hE59.good, (by rw [hgw, B.gw_sub_left hbl (by omega) (by omega) hlt, List.append_assoc])⟩
         ·first | (dsimp only; omega) | (show _ < _; omega)
    ·skip
     refine op_alloc (z := (.agg #[(.int .i64 0), (.int .i64 0)])) (us := [(.int .i64 0), (.int .i64 0)]) (fun _ => by kernel_rfl) rfl rfl hH17 (fun b73 w74 hH75 => ?_)
     refine ops_nil ?_
     refine ⟨(hH75.sub (sC sR)), ?_⟩
     refine any_all [8] (by kernel_rfl) rfl ?_
     refine ⟨⟨_, rfl, ?_⟩, trivial⟩
     ·skip
      refine op_alloc (z := (.agg #[(.int .i64 0), (.int .i64 0)])) (us := [(.int .i64 0), (.int .i64 0)]) (fun _ => by kernel_rfl) rfl rfl hH75 (fun b76 w77 hH78 => ?_)
      refine ops_nil ?_
      refine ⟨(hH78.sub (sC (sC sR))), ?_⟩
      refine any_all [10] (by kernel_rfl) rfl ?_
      refine ⟨⟨_, rfl, ?_⟩, trivial⟩
      ·skip
       refine op_store (n := 0) (j := 0) (us := [(.int .i64 (a : Int)), (.int .i64 ((a + B.half (b - a) : Nat) : Int))]) rfl rfl hH78 rfl T.sz143 rfl rfl rfl (by rfl) (fun w79 hH80 => ?_)
       refine ops_nil ?_
       refine ⟨(hH80.sub (sC (sC sR))), ?_⟩
       refine any_all [11] (by kernel_rfl) rfl ?_
       refine ⟨⟨_, rfl, ?_⟩, trivial⟩
       ·skip
        refine op_store (n := 1) (j := 0) (us := [(.int .i64 ((a + B.half (b - a) : Nat) : Int)), (.int .i64 (b : Int))]) rfl rfl hH80 rfl T.sz143 rfl rfl rfl (by rfl) (fun w81 hH82 => ?_)
        refine ops_nil ?_
        refine ⟨(hH82.sub (sC (sC sR))), ?_⟩
        refine any_done (by kernel_rfl) ?_
        refine thn_n (seq (seq (region (oM hH82 rfl rfl (oM hH82 rfl rfl ?_)))))
        refine ops_y hH82 rfl rfl (yv_gtr rfl rfl) ?_
        refine ops_nil (thn_n ?_)
        by_cases hc83 : ((a + B.half (b - a) : Nat) : Int) < (t : Int)
        ·skip
         have hge : ¬ t - a ≤ B.half (b - a) := by omega
         refine cond_t rfl (dT hc83) ?_
         refine seq (region ?_)
         refine ops_y hH82 rfl rfl (yv_loadA (cs := [(.int .i64 ((a + B.half (b - a) : Nat) : Int)), (.int .i64 (b : Int))]) T.agg143 rfl rfl (fun _ hw => Heap.cellsw hw (n := 1) rfl (k := 0) rfl)) ?_
         refine ops_y hH82 rfl rfl (yv_loadA (cs := [(.int .i64 (a : Int)), (.int .i64 ((a + B.half (b - a) : Nat) : Int))]) T.agg143 rfl rfl (fun _ hw => Heap.cellsw hw (n := 0) rfl (k := 0) rfl)) ?_
         refine op_store (n := 0) (j := 0) (us := [(.int .i64 ((a + B.half (b - a) : Nat) : Int)), (.int .i64 (b : Int))]) rfl rfl hH82 rfl T.sz143 rfl rfl rfl (by rfl) (fun w84 hH85 => ?_)
         refine op_store (n := 1) (j := 0) (us := [(.int .i64 (a : Int)), (.int .i64 ((a + B.half (b - a) : Nat) : Int))]) rfl rfl hH85 rfl T.sz143 rfl rfl rfl (by rfl) (fun w86 hH87 => ?_)
         refine ops_nil (thn_n (region (oA hH87 rfl rfl (ops_nil (thn_n (seq (region (oM hH87 rfl rfl ?_))))))))
         refine ops_y hH87 rfl rfl (yv_loadA (cs := [(.int .i64 (a : Int)), (.int .i64 ((a + B.half (b - a) : Nat) : Int))]) T.agg143 rfl rfl (fun _ hw => Heap.cellsw hw (n := 1) rfl (k := 0) rfl)) ?_
         refine op_fnM (g := kb) (n := 4) rfl rfl rfl hH87 rfl ⟨Nat.le_refl _, Nat.lt_succ_self _⟩ (c112 (s := a) (e := (a + B.half (b - a))) ⟨((hb.nowK hkm (hH87.get (n := 5) rfl) (hH87.get (n := 6) rfl)).1), ((hb.nowK hkm (hH87.get (n := 5) rfl) (hH87.get (n := 6) rfl)).2)⟩ (Heap.mapw hH87 (n := 4) rfl) hg (hG.nowK hkm (hH87.get (n := 5) rfl) (hH87.get (n := 6) rfl)) hin (by omega) (by omega) (by omega)) (fun u90 w88 hH89 hv91 => ?_)
         obtain ⟨hu, -⟩ := hv91
         subst hu
         obtain ⟨km93, hE94, hH92⟩ := Heap.fixMp hH89 (n := 4) rfl (fun w' h => h.2)
         refine op_lit (us := [(0, (.int .u64 ((B.root (B.sub l a (a + B.half (b - a)))).toNat : Int)))]) T.el39_encW [B.root (B.sub l a (a + B.half (b - a)))] rfl (by decide) rfl (fun a ha => by simp [ha.ev (show ev _ (.tmp 50) = some _ from rfl)]) (fun w => by kernel_rfl) hH92 (fun u95 lo97 hi98 w96 hH99 => ?_)
         refine oM hH99 rfl rfl ?_
         refine op_append (n := 0) T.el39_encW rfl rfl rfl hH99 rfl (Heap.rdw T.el39_encW hH99 (n := 3) rfl) (by first | omega | (simp only [List.length_append, List.length_cons, List.length_nil]; omega)) (fun u100 lo102 hi103 w101 hH104 => ?_)
         refine oA hH104 rfl rfl (ops_nil (thn_n (region ?_)))
         refine ops_y hH104 rfl rfl (yv_loadA (cs := [(.int .i64 ((a + B.half (b - a) : Nat) : Int)), (.int .i64 (b : Int))]) T.agg143 rfl rfl (fun _ hw => Heap.cellsw hw (n := 1) rfl (k := 0) rfl)) ?_
         refine op_store (n := 4) (j := 0) (us := [(.int .i64 ((a + B.half (b - a) : Nat) : Int)), (.int .i64 (b : Int))]) rfl rfl hH104 rfl T.sz143 rfl rfl rfl (by rfl) (fun w105 hH106 => ?_)
         refine ops_nil (blk_n ?_)
         have hH107 := (hH106.sub (List.Sublist.cons_cons _ (sC (sC (sC sR)))))
         refine lp_n ((a + B.half (b - a)), b, false, ([B.root (B.sub l a (a + B.half (b - a)))] ++ o), km93, u100, lo102, hi103) (uC rfl (uC rfl (uC rfl (uC rfl (uC rfl (uC rfl (uC rfl (Sub.nil _)))))))) ?_ ?_
         ·exact ⟨(Heap.recast (n := 0) hH107 rfl (rfl)), by omega, by omega, by omega, hE94.good, (by rw [hgw, B.gw_sub_right hbl (by omega) (by omega) hge, List.append_assoc, show t - (a + B.half (b - a)) = t - a - B.half (b - a) by omega])⟩
         ·first | (dsimp only; omega) | (show _ < _; omega)
        ·skip
         have hlt : t - a ≤ B.half (b - a) := by omega
         refine cond_f rfl (dF hc83) ?_
         refine skip (thn_n (seq (region (oM hH82 rfl rfl ?_))))
         refine ops_y hH82 rfl rfl (yv_loadA (cs := [(.int .i64 ((a + B.half (b - a) : Nat) : Int)), (.int .i64 (b : Int))]) T.agg143 rfl rfl (fun _ hw => Heap.cellsw hw (n := 1) rfl (k := 0) rfl)) ?_
         refine op_fnM (g := kb) (n := 4) rfl rfl rfl hH82 rfl ⟨Nat.le_refl _, Nat.lt_succ_self _⟩ (c112 (s := (a + B.half (b - a))) (e := b) ⟨((hb.nowK hkm (hH82.get (n := 5) rfl) (hH82.get (n := 6) rfl)).1), ((hb.nowK hkm (hH82.get (n := 5) rfl) (hH82.get (n := 6) rfl)).2)⟩ (Heap.mapw hH82 (n := 4) rfl) hg (hG.nowK hkm (hH82.get (n := 5) rfl) (hH82.get (n := 6) rfl)) hin (by omega) (by omega) (by omega)) (fun u110 w108 hH109 hv111 => ?_)
         obtain ⟨hu, -⟩ := hv111
         subst hu
         obtain ⟨km113, hE114, hH112⟩ := Heap.fixMp hH109 (n := 4) rfl (fun w' h => h.2)
         refine op_lit (us := [(0, (.int .u64 ((B.root (B.sub l (a + B.half (b - a)) b)).toNat : Int)))]) T.el39_encW [B.root (B.sub l (a + B.half (b - a)) b)] rfl (by decide) rfl (fun a ha => by simp [ha.ev (show ev _ (.tmp 50) = some _ from rfl)]) (fun w => by kernel_rfl) hH112 (fun u115 lo117 hi118 w116 hH119 => ?_)
         refine oM hH119 rfl rfl ?_
         refine op_append (n := 0) T.el39_encW rfl rfl rfl hH119 rfl (Heap.rdw T.el39_encW hH119 (n := 3) rfl) (by first | omega | (simp only [List.length_append, List.length_cons, List.length_nil]; omega)) (fun u120 lo122 hi123 w121 hH124 => ?_)
         refine oA hH124 rfl rfl (ops_nil (thn_n (region ?_)))
         refine ops_y hH124 rfl rfl (yv_loadA (cs := [(.int .i64 (a : Int)), (.int .i64 ((a + B.half (b - a) : Nat) : Int))]) T.agg143 rfl rfl (fun _ hw => Heap.cellsw hw (n := 1) rfl (k := 0) rfl)) ?_
         refine op_store (n := 4) (j := 0) (us := [(.int .i64 (a : Int)), (.int .i64 ((a + B.half (b - a) : Nat) : Int))]) rfl rfl hH124 rfl T.sz143 rfl rfl rfl (by rfl) (fun w125 hH126 => ?_)
         refine ops_nil (blk_n ?_)
         have hH127 := (hH126.sub (List.Sublist.cons_cons _ (sC (sC (sC sR)))))
         refine lp_n (a, (a + B.half (b - a)), wv, ([B.root (B.sub l (a + B.half (b - a)) b)] ++ o), km113, u120, lo122, hi123) (uC rfl (uC rfl (uC rfl (uC rfl (uC rfl (uC rfl (uC rfl (Sub.nil _)))))))) ?_ ?_
         ·exact ⟨(Heap.recast (n := 0) hH127 rfl (rfl)), by omega, by omega, by omega, hE114.good, (by rw [hgw, B.gw_sub_left hbl (by omega) (by omega) hlt, List.append_assoc])⟩
         ·first | (dsimp only; omega) | (show _ < _; omega)
  ·skip
   refine cond_f rfl (dF hc9) ?_
   refine exit (thn_x (lp_x (blk_here (thn_n (seq (seq ?_))))))
   have hol := congrArg List.length hgw
   rw [List.length_append] at hol
   have hol2 := B.gw_len l.length l t true rfl ht1 ht
   refine region (oM hH8 rfl rfl ?_)
   refine ops_y hH8 rfl rfl (yv_not rfl) ?_
   refine ops_nil (thn_n ?_)
   by_cases hc128 : (!wv) = true
   ·skip
    have hwf : wv = false := by simpa using hc128
    refine cond_t rfl hc128 ?_
    refine region (oM hH8 rfl rfl ?_)
    refine ops_y hH8 rfl rfl (yv_loadA (cs := [(.int .i64 (a : Int)), (.int .i64 (b : Int))]) T.agg143 rfl rfl (fun _ hw => Heap.cellsw hw (n := 1) rfl (k := 0) rfl)) ?_
    refine op_fnM (g := kb) (n := 2) rfl rfl rfl hH8 rfl ⟨Nat.le_refl _, Nat.lt_succ_self _⟩ (c112 (s := a) (e := b) ⟨((hb.nowK hkm (hH8.get (n := 3) rfl) (hH8.get (n := 4) rfl)).1), ((hb.nowK hkm (hH8.get (n := 3) rfl) (hH8.get (n := 4) rfl)).2)⟩ (Heap.mapw hH8 (n := 2) rfl) hg (hG.nowK hkm (hH8.get (n := 3) rfl) (hH8.get (n := 4) rfl)) hin (by omega) (by omega) (by omega)) (fun u131 w129 hH130 hv132 => ?_)
    obtain ⟨hu, -⟩ := hv132
    subst hu
    obtain ⟨km134, hE135, hH133⟩ := Heap.fixMp hH130 (n := 2) rfl (fun w' h => h.2)
    refine op_lit (us := [(0, (.int .u64 ((B.root (B.sub l a b)).toNat : Int)))]) T.el39_encW [B.root (B.sub l a b)] rfl (by decide) rfl (fun a ha => by simp [ha.ev (show ev _ (.tmp 59) = some _ from rfl)]) (fun w => by kernel_rfl) hH133 (fun u136 lo138 hi139 w137 hH140 => ?_)
    refine oM hH140 rfl rfl ?_
    refine op_append (n := 0) T.el39_encW rfl rfl rfl hH140 rfl (Heap.rdw T.el39_encW hH140 (n := 1) rfl) (by first | omega | (simp only [List.length_append, List.length_cons, List.length_nil]; omega)) (fun u141 lo143 hi144 w142 hH145 => ?_)
    refine oA hH145 rfl rfl (ops_nil (thn_n (seq (seq (region (oM hH145 rfl rfl ?_))))))
    refine ops_y hH145 rfl rfl (yv_nilck rfl) ?_
    refine ops_y hH145 rfl rfl (yv_field T.f138_1 rfl) ?_
    refine ops_y hH145 rfl rfl (yv_load T.one136 rfl (fun _ hw => bx_cell ((hb.nowK hkm (hw.get (n := 4) rfl) (hw.get (n := 5) rfl)).1) rfl)) ?_
    obtain ⟨es, clock, hH146, hv1, hv2, hv3, hv4⟩ := Heap.openMap hH145 (n := 3) rfl
    have hents : Ents B.kvS B.vvW es clock km134 := ⟨hv1, hv2, hv3, hv4⟩
    have hO : B.Outs es clock km134 := ⟨hents, B.Good.bd hE135.good⟩
    refine op_range T.m136.und rfl rfl hH146 (Heap.raww hH146 (n := 3) rfl) (fun r147 w148 hH149 => ?_)
    refine ops_nil (thn_n (block ?_))
    refine loop (S := Array MapEntry × B.Ms × Array Nat) (fun (es2, m3, seen) => [(0, (.pointer (some ⟨db, 0, none⟩))), (4, (.slice none 0 0)), (5, u141), (67, (.pointer (some ⟨r147, 0, none⟩)))]) (fun (es2, m3, seen) w1 => Heap [raw r147 (.mapIter (some kb) clock seen clock), ow lo143 hi144 32 1 encW u141 ([B.root (B.sub l a b)] ++ o), ow lo_5 hi_5 32 1 encW v_5 o, bx b1 143 [(.int .i64 (a : Int)), (.int .i64 (b : Int))], raw kb (.map es2 clock), restI w kb, restJ w (kb + 1)] w1 ∧ B.Outs es2 clock m3) (fun (es2, m3, seen) => unseen es2 seen) (es, km134, #[]) (uC rfl (uC rfl (uC rfl (uC rfl (Sub.nil _))))) ?_ ?_
    ·exact ⟨hH149, hO⟩
    ·rintro ⟨es2, m3, seen⟩ w150 ⟨hH151, hO⟩
     show Holds _ _ _ _ _ [(0, (.pointer (some ⟨db, 0, none⟩))), (4, (.slice none 0 0)), (5, u141), (67, (.pointer (some ⟨r147, 0, none⟩)))] _ _
     refine seq (region ?_)
     refine op_next rfl rfl hH151 (Heap.raww hH151 (n := 4) rfl) (k := 0) rfl hO.ents.born (fun hall152 w156 hH157 => ?_) (fun e153 he154 hns155 w156 hH157 => ?_)
     ·skip
      refine ops_y hH157 rfl rfl (yv_extract rfl rfl) (ops_nil (thn_n (seq ?_)))
      refine cond_f rfl rfl ?_
      refine exit (thn_x (lp_x (blk_here (thn_n (seq (region (oM hH157 rfl rfl (oA hH157 rfl rfl (ops_nil ?_)))))))))
      refine thn_n (ret ?_)
      have hH158 := hH157.weaken (n := 4) (φ := fun _ => True) rfl (fun _ _ => trivial)
      have hH159 := hH158.front (n := 1) rfl
      have hH160 := hH159.front (n := 6) rfl
      have hH161 := hH160.front (n := 5) rfl
      have hH162 := hH161.front (n := 6) rfl
      have hH163 := (hH162.sub (List.Sublist.cons_cons _ (List.Sublist.cons_cons _ (List.Sublist.cons_cons _ (List.Sublist.cons_cons _ (List.nil_sublist _))))))
      refine finO (H := [ow lo143 hi144 32 1 encW u141 ([B.root (B.sub l a b)] ++ o)]) [] hH163 (fun w' hf => (res1 rfl (show RV _ _ _ (.tmp 4) _ from rfl))) (fun w' hf => ?_)
      have hsl := B.sub_length (l := l) (a := a) hbl
      subst hwf
      rw [hgw, B.gw_one (by omega) (by omega)]; exact Heap.own hf (n := 0) rfl
     ·skip
      obtain ⟨ai, ak, hkey, ⟨xv, hval⟩, hak1, hak2⟩ := hO.entry he154
      have hns := hns155
      have hen := he154
      refine ops_y hH157 rfl rfl (yv_extract rfl rfl) (ops_nil (thn_n (seq ?_)))
      refine cond_t rfl rfl ?_
      refine skip (thn_n (block (seq (region ?_))))
      refine ops_y hH157 rfl rfl (yv_entryK hkey hval rfl he154 hO.ents.bornNd (fun _ hw => (Heap.raww hw (n := 4) rfl)) (fun _ hw => Heap.raww hw (n := 0) rfl)) ?_
      refine ops_y hH157 rfl rfl (yv_extract rfl rfl) ?_
      refine op_alloc (z := (.agg #[(.int .i64 0), (.int .i64 0)])) (us := [(.int .i64 0), (.int .i64 0)]) (fun _ => by kernel_rfl) rfl rfl hH157 (fun b164 w165 hH166 => ?_)
      refine op_store (n := 0) (j := 0) (us := [(.int .i64 ai), (.int .i64 ak)]) rfl rfl hH166 rfl T.sz143 rfl rfl rfl (by rfl) (fun w167 hH168 => ?_)
      refine ops_nil (thn_n (seq (region ?_)))
      refine ops_y hH168 rfl rfl (yv_field T.f143_1 rfl) ?_
      refine ops_y hH168 rfl rfl (yv_load T.one3 rfl (fun _ hw => Heap.cellw hw (n := 0) rfl rfl)) ?_
      refine ops_y hH168 rfl rfl (yv_field T.f143_0 rfl) ?_
      refine ops_y hH168 rfl rfl (yv_load T.one3 rfl (fun _ hw => Heap.cellw hw (n := 0) rfl rfl)) ?_
      refine ops_y hH168 rfl rfl (yv_sub rfl rfl (by omega)) ?_
      refine ops_y hH168 rfl rfl (yv_eql rfl rfl) ?_
      refine ops_nil (thn_n ?_)
      by_cases hc169 : (ak - ai) = 1
      ·skip
       refine cond_t rfl (dT hc169) ?_
       refine region_draw (fun w' => Heap [bx b164 143 [(.int .i64 ai), (.int .i64 ak)], raw r147 (.mapIter (some kb) clock (seen.push e153.born) clock), ow lo143 hi144 32 1 encW u141 ([B.root (B.sub l a b)] ++ o), ow lo_5 hi_5 32 1 encW v_5 o, bx b1 143 [(.int .i64 (a : Int)), (.int .i64 (b : Int))], restI w kb, restJ w (kb + 1)] w') T.mixed (fun w170 hr171 => ?_)
       have hH172 := hH168.redrawn hr171
       refine any_takes [0, 1, 2, 3, 4] (by kernel_rfl) (hH172.sub (List.Sublist.cons_cons _ (List.Sublist.cons_cons _ (List.Sublist.cons_cons _ (List.Sublist.cons_cons _ (List.Sublist.cons_cons _ (sC sR))))))) _ _ _ (by kernel_rfl) ?_
       refine qM rfl rfl rfl ?_
       refine qs_y rfl rfl (yv_nilck rfl) ?_
       refine qs_y rfl rfl (yv_field T.f138_1 rfl) ?_
       refine qs_y rfl rfl (yv_load T.one136 rfl (fun _ hw => bx_cell ((hb.nowK hkm (hw.get (n := 5) rfl) (hw.get (n := 6) rfl)).1) rfl)) ?_
       refine qs_y rfl rfl (yv_loadA (cs := [(.int .i64 ai), (.int .i64 ak)]) T.agg143 rfl rfl (fun _ hw => Heap.cellsw hw (n := 0) rfl (k := 0) rfl)) ?_
       refine qs_nil ?_
       refine any_all [5] (by kernel_rfl) rfl ?_
       refine ⟨⟨_, rfl, ?_⟩, trivial⟩
       ·skip
        refine op_deleteO (n := 5) (k := ((ai, ak) : Int × Int)) T.m136 hO.ents rfl rfl hH172 rfl (fun es9 w173 hents9 hsub9 hH174 => ?_)
        refine ops_nil ?_
        refine ⟨(hH174.sub (List.Sublist.cons_cons _ (List.Sublist.cons_cons _ (List.Sublist.cons_cons _ (List.Sublist.cons_cons _ (List.Sublist.cons_cons _ (sC sR))))))), ?_⟩
        refine any_done (by kernel_rfl) ?_
        refine blk_n ?_
        have hH175 := (hH174.sub (sC sR))
        refine lp_n (es9, (del (ai, ak) m3), (seen.push e153.born)) (uC rfl (uC rfl (uC rfl (uC rfl (Sub.nil _))))) ?_ ?_
        ·exact ⟨hH175, hO.del hents9⟩
        ·show _ < _; first | exact unseen_lt hen hns | exact Nat.lt_of_le_of_lt (unseen_sub hsub9) (unseen_lt hen hns)
      ·skip
       refine cond_f rfl (dF hc169) ?_
       refine skip (blk_n ?_)
       have hH176 := (hH168.sub (sC sR))
       refine lp_n (es2, m3, (seen.push e153.born)) (uC rfl (uC rfl (uC rfl (uC rfl (Sub.nil _))))) ?_ ?_
       ·exact ⟨hH176, hO⟩
       ·show _ < _; first | exact unseen_lt hen hns | exact Nat.lt_of_le_of_lt (unseen_sub hsub9) (unseen_lt hen hns)
   ·skip
    have hwt : wv = true := by simpa using (Bool.eq_false_iff.2 hc128)
    refine cond_f rfl (Bool.eq_false_iff.2 hc128) ?_
    refine skip (thn_n (seq (seq (region (oM hH8 rfl rfl ?_)))))
    refine ops_y hH8 rfl rfl (yv_nilck rfl) ?_
    refine ops_y hH8 rfl rfl (yv_field T.f138_1 rfl) ?_
    refine ops_y hH8 rfl rfl (yv_load T.one136 rfl (fun _ hw => bx_cell ((hb.nowK hkm (hw.get (n := 3) rfl) (hw.get (n := 4) rfl)).1) rfl)) ?_
    obtain ⟨es, clock, hH177, hv1, hv2, hv3, hv4⟩ := Heap.openMap hH8 (n := 2) rfl
    have hents : Ents B.kvS B.vvW es clock m1 := ⟨hv1, hv2, hv3, hv4⟩
    have hO : B.Outs es clock m1 := ⟨hents, B.Good.bd hg⟩
    refine op_range T.m136.und rfl rfl hH177 (Heap.raww hH177 (n := 2) rfl) (fun r178 w179 hH180 => ?_)
    refine ops_nil (thn_n (block ?_))
    refine loop (S := Array MapEntry × B.Ms × Array Nat) (fun (es2, m3, seen) => [(0, (.pointer (some ⟨db, 0, none⟩))), (4, (.slice none 0 0)), (5, v_5), (67, (.pointer (some ⟨r178, 0, none⟩)))]) (fun (es2, m3, seen) w1 => Heap [raw r178 (.mapIter (some kb) clock seen clock), ow lo_5 hi_5 32 1 encW v_5 o, bx b1 143 [(.int .i64 (a : Int)), (.int .i64 (b : Int))], raw kb (.map es2 clock), restI w kb, restJ w (kb + 1)] w1 ∧ B.Outs es2 clock m3) (fun (es2, m3, seen) => unseen es2 seen) (es, m1, #[]) (uC rfl (uC rfl (uC rfl (uC rfl (Sub.nil _))))) ?_ ?_
    ·exact ⟨hH180, hO⟩
    ·rintro ⟨es2, m3, seen⟩ w181 ⟨hH182, hO⟩
     show Holds _ _ _ _ _ [(0, (.pointer (some ⟨db, 0, none⟩))), (4, (.slice none 0 0)), (5, v_5), (67, (.pointer (some ⟨r178, 0, none⟩)))] _ _
     refine seq (region ?_)
     refine op_next rfl rfl hH182 (Heap.raww hH182 (n := 3) rfl) (k := 0) rfl hO.ents.born (fun hall183 w187 hH188 => ?_) (fun e184 he185 hns186 w187 hH188 => ?_)
     ·skip
      refine ops_y hH188 rfl rfl (yv_extract rfl rfl) (ops_nil (thn_n (seq ?_)))
      refine cond_f rfl rfl ?_
      refine exit (thn_x (lp_x (blk_here (thn_n (seq (region (oM hH188 rfl rfl (oA hH188 rfl rfl (ops_nil ?_)))))))))
      refine thn_n (ret ?_)
      have hH189 := hH188.weaken (n := 3) (φ := fun _ => True) rfl (fun _ _ => trivial)
      have hH190 := hH189.front (n := 1) rfl
      have hH191 := hH190.front (n := 5) rfl
      have hH192 := hH191.front (n := 4) rfl
      have hH193 := hH192.front (n := 5) rfl
      have hH194 := (hH193.sub (List.Sublist.cons_cons _ (List.Sublist.cons_cons _ (List.Sublist.cons_cons _ (List.Sublist.cons_cons _ (List.nil_sublist _))))))
      refine finO (H := [ow lo_5 hi_5 32 1 encW v_5 o]) [] hH194 (fun w' hf => (res1 rfl (show RV _ _ _ (.tmp 4) _ from rfl))) (fun w' hf => ?_)
      have hsl := B.sub_length (l := l) (a := a) hbl
      subst hwt
      rw [hgw, B.gw_all (by omega) (by omega)]; exact Heap.own hf (n := 0) rfl
     ·skip
      obtain ⟨ai, ak, hkey, ⟨xv, hval⟩, hak1, hak2⟩ := hO.entry he185
      have hns := hns186
      have hen := he185
      refine ops_y hH188 rfl rfl (yv_extract rfl rfl) (ops_nil (thn_n (seq ?_)))
      refine cond_t rfl rfl ?_
      refine skip (thn_n (block (seq (region ?_))))
      refine ops_y hH188 rfl rfl (yv_entryK hkey hval rfl he185 hO.ents.bornNd (fun _ hw => (Heap.raww hw (n := 3) rfl)) (fun _ hw => Heap.raww hw (n := 0) rfl)) ?_
      refine ops_y hH188 rfl rfl (yv_extract rfl rfl) ?_
      refine op_alloc (z := (.agg #[(.int .i64 0), (.int .i64 0)])) (us := [(.int .i64 0), (.int .i64 0)]) (fun _ => by kernel_rfl) rfl rfl hH188 (fun b195 w196 hH197 => ?_)
      refine op_store (n := 0) (j := 0) (us := [(.int .i64 ai), (.int .i64 ak)]) rfl rfl hH197 rfl T.sz143 rfl rfl rfl (by rfl) (fun w198 hH199 => ?_)
      refine ops_nil (thn_n (seq (region ?_)))
      refine ops_y hH199 rfl rfl (yv_field T.f143_1 rfl) ?_
      refine ops_y hH199 rfl rfl (yv_load T.one3 rfl (fun _ hw => Heap.cellw hw (n := 0) rfl rfl)) ?_
      refine ops_y hH199 rfl rfl (yv_field T.f143_0 rfl) ?_
      refine ops_y hH199 rfl rfl (yv_load T.one3 rfl (fun _ hw => Heap.cellw hw (n := 0) rfl rfl)) ?_
      refine ops_y hH199 rfl rfl (yv_sub rfl rfl (by omega)) ?_
      refine ops_y hH199 rfl rfl (yv_eql rfl rfl) ?_
      refine ops_nil (thn_n ?_)
      by_cases hc200 : (ak - ai) = 1
      ·skip
       refine cond_t rfl (dT hc200) ?_
       refine region_draw (fun w' => Heap [bx b195 143 [(.int .i64 ai), (.int .i64 ak)], raw r178 (.mapIter (some kb) clock (seen.push e184.born) clock), ow lo_5 hi_5 32 1 encW v_5 o, bx b1 143 [(.int .i64 (a : Int)), (.int .i64 (b : Int))], restI w kb, restJ w (kb + 1)] w') T.mixed (fun w201 hr202 => ?_)
       have hH203 := hH199.redrawn hr202
       refine any_takes [0, 1, 2, 3, 4] (by kernel_rfl) (hH203.sub (List.Sublist.cons_cons _ (List.Sublist.cons_cons _ (List.Sublist.cons_cons _ (List.Sublist.cons_cons _ (sC sR)))))) _ _ _ (by kernel_rfl) ?_
       refine qM rfl rfl rfl ?_
       refine qs_y rfl rfl (yv_nilck rfl) ?_
       refine qs_y rfl rfl (yv_field T.f138_1 rfl) ?_
       refine qs_y rfl rfl (yv_load T.one136 rfl (fun _ hw => bx_cell ((hb.nowK hkm (hw.get (n := 4) rfl) (hw.get (n := 5) rfl)).1) rfl)) ?_
       refine qs_y rfl rfl (yv_loadA (cs := [(.int .i64 ai), (.int .i64 ak)]) T.agg143 rfl rfl (fun _ hw => Heap.cellsw hw (n := 0) rfl (k := 0) rfl)) ?_
       refine qs_nil ?_
       refine any_all [5] (by kernel_rfl) rfl ?_
       refine ⟨⟨_, rfl, ?_⟩, trivial⟩
       ·skip
        refine op_deleteO (n := 4) (k := ((ai, ak) : Int × Int)) T.m136 hO.ents rfl rfl hH203 rfl (fun es9 w204 hents9 hsub9 hH205 => ?_)
        refine ops_nil ?_
        refine ⟨(hH205.sub (List.Sublist.cons_cons _ (List.Sublist.cons_cons _ (List.Sublist.cons_cons _ (List.Sublist.cons_cons _ (sC sR)))))), ?_⟩
        refine any_done (by kernel_rfl) ?_
        refine blk_n ?_
        have hH206 := (hH205.sub (sC sR))
        refine lp_n (es9, (del (ai, ak) m3), (seen.push e184.born)) (uC rfl (uC rfl (uC rfl (uC rfl (Sub.nil _))))) ?_ ?_
        ·exact ⟨hH206, hO.del hents9⟩
        ·show _ < _; first | exact unseen_lt hen hns | exact Nat.lt_of_le_of_lt (unseen_sub hsub9) (unseen_lt hen hns)
      ·skip
       refine cond_f rfl (dF hc200) ?_
       refine skip (blk_n ?_)
       have hH207 := (hH199.sub (sC sR))
       refine lp_n (es2, m3, (seen.push e184.born)) (uC rfl (uC rfl (uC rfl (uC rfl (Sub.nil _))))) ?_ ?_
       ·exact ⟨hH207, hO⟩
       ·show _ < _; first | exact unseen_lt hen hns | exact Nat.lt_of_le_of_lt (unseen_sub hsub9) (unseen_lt hen hns)
end Go.Fip
namespace Go.Fip
open Go.Proofs Go.RowKit
section
variable {K V : Type} [DecidableEq K] {kv : K → Value} {vv : V → Value}
theorem row_open {t b mb clock lo hi : Nat} {v : Value} {es : Array MapEntry} {m : List (K × V)} {R : List Item} {w : World} (he : Ents kv vv es clock m) (hH : Heap (⟨lo, hi, RowAt t b v mb es clock⟩ :: R) w) : Heap (bx b t [v, .map (some mb)] :: mp kv vv mb m :: R) w := by
 have hok := hH.okAt (n := 0) rfl
 have hap := (List.pairwise_cons.1 hH.apart)
 have hR : Heap R w := hH.sub (List.sublist_cons_self _ _)
 have h1 := hok.now.1
 have h2 := hok.now.2
 unfold Bx at h1
 have hne : b ≠ mb := fun e => by
  subst e
  have h3 : (some _ : Option Obj) = some _ := h1.symm.trans h2
  cases h3
 have hb : lo ≤ b ∧ b < hi := Item.within hok h1 (fun w' h' _ hx => by have := h'.1; unfold Bx at this; rw [this] at hx; cases hx)
 have hm : lo ≤ mb ∧ mb < hi := Item.within hok h2 (fun w' h' _ hx => by have := h'.2; rw [this] at hx; cases hx)
 have hs : hi ≤ w.heap.size := hok.2.1
 have ok1 : (bx b t [v, .map (some mb)]).ok w := ⟨Nat.le_succ _, by show b + 1 ≤ _; omega, fun w' ha => by
  show w'.heap[b]? = _
  rw [ha.block b (Nat.le_refl _) (Nat.lt_succ_self _)]; exact h1⟩
 have ok2 : (mp kv vv mb m).ok w := mp_ok (he.mp h2)
 refine ⟨fun i hi' => ?_, ?_⟩
 ·rcases List.mem_cons.1 hi' with rfl | hi'
  ·exact ok1
  ·rcases List.mem_cons.1 hi' with rfl | hi'
   ·exact ok2
   ·exact hR.ok i hi'
 ·refine List.Pairwise.cons (fun j hj => ?_) (List.Pairwise.cons (fun j hj => ?_) hR.apart)
  ·rcases List.mem_cons.1 hj with rfl | hj
   ·show b + 1 ≤ mb ∨ mb + 1 ≤ b; omega
   ·have := hap.1 j hj
    rcases this with h | h
    ·left; show b + 1 ≤ _; have h3 : hi ≤ j.lo := h; omega
    ·right; show _ ≤ b; have h3 : j.hi ≤ lo := h; omega
  ·have := hap.1 j hj
   rcases this with h | h
   ·left; show mb + 1 ≤ _; have h3 : hi ≤ j.lo := h; omega
   ·right; show _ ≤ mb; have h3 : j.hi ≤ lo := h; omega
end
theorem c32 {v : Value} {l : List En} {w : World} (h0 : Rd encE 5 v l w) (hn : l.length ≤ 1000000) (hG : Gl w) {m : Int}  :
  Fn Tryz.prog 32 [(.agg #[v]), (.int .i64 m)].toArray w (fun u w => ∃ q, u = .tuple #[q, .int .i64 (B.gwR l m).2] ∧ Own 32 1 encW q (B.gwR l m).1 w) := by
 refine fn_of' (args := [(.agg #[v]), (.int .i64 m)]) Tryz.func32 rfl (ent Tryz.func32 (by kernel_rfl) rfl) rfl rfl (fun hH => ?_)
 refine seq (region ?_)
 refine op_box (us := [v]) rfl rfl rfl hH (fun b1 w2 hH3 => ?_)
 refine oA hH3 rfl rfl (oA hH3 rfl rfl (ops_nil (thn_n (seq ?_))))
 by_cases hc4 : B.ck l = 0
 ·skip
  have hc0 : B.ck l = 0 := ‹_›
  have hbk := B.ck_iff.1 hc0
  have hin0 := hbk.2.1
  have hl24 := hbk.1
  refine region ?_
  refine ops_y hH3 rfl rfl (yv_loadA (cs := [v]) T.agg24 rfl rfl (fun _ hw => Heap.cellsw hw (n := 0) rfl (k := 0) rfl)) ?_
  refine op_fn rfl rfl rfl hH3 (c56g (h0.now hH3 (n := 1) rfl) (by omega) (hG.now hH3 (n := 1) rfl) hc0) (fun u7 w5 lo8 hi9 hH6 hv10 => ?_)
  obtain ⟨dbD12, hu, hrowD12⟩ := hv10
  subst hu
  obtain ⟨mbD12, esD12, clD12, mD12, hentsD12, hwholeD12, hH11⟩ := Heap.fixMap hH6 (n := 0) rfl (fun w' h => by obtain ⟨rb', e, h⟩ := h; cases e; exact h)
  refine oM hH11 rfl rfl (ops_y hH11 rfl rfl (yv_extract rfl rfl) (ops_y hH11 rfl rfl (yv_extract rfl rfl) (oA hH11 rfl rfl (oA hH11 rfl rfl (ops_nil (thn_n (seq (block (seq ?_)))))))))
  refine region (oM hH11 rfl rfl ?_)
  refine ops_y hH11 rfl rfl (yv_neq rfl rfl) ?_
  refine oA hH11 rfl rfl (ops_nil (thn_n ?_))
  refine cond_f rfl rfl ?_
  refine seq (region ?_)
  refine ops_y hH11 rfl rfl (yv_field T.f24_0 rfl) ?_
  refine ops_y hH11 rfl rfl (yv_load T.one22 rfl (fun _ hw => Heap.cellw hw (n := 1) rfl rfl)) ?_
  refine ops_y hH11 rfl rfl (yv_len T.sl22 rfl (h0.now hH11 (n := 2) rfl).is) ?_
  refine oM hH11 rfl rfl ?_
  refine op_lit (us := [(0, (.int .i64 m))]) T.el131_encI [m] rfl (by decide) rfl (fun a ha => by simp [ha.ev (show ev _ (.tmp 21) = some _ from rfl)]) (fun w => by kernel_rfl) hH11 (fun u13 lo15 hi16 w14 hH17 => ?_)
  refine op_fnV rfl rfl rfl hH17 (c57_1 (Heap.rdw T.el131_encI hH17 (n := 0) rfl)) (fun w18 hH19 => ?_)
  refine ops_y hH19 rfl rfl (yv_not rfl) ?_
  refine oA hH19 rfl rfl (ops_nil (thn_n ?_))
  by_cases hc20 : 1 ≤ m ∧ m ≤ (l.length : Int)
  ·skip
   refine cond_f rfl (not_decide_n hc20) ?_
   refine skip (blk_n (thn_n (seq (region (oM hH19 rfl rfl ?_)))))
   refine ops_y hH19 rfl rfl (yv_cast (show m = (m.toNat : Int) by omega) (yv_move rfl)) ?_
   have hH21 := hH19.front (n := 1) rfl
   have hH22 := row_open hentsD12 hH21
   refine op_fnO (n := 1) rfl rfl rfl hH22 rfl (c77 (t := m.toNat) ⟨(Heap.bxw hH22 (n := 0) rfl), (h0.now hH22 (n := 4) rfl)⟩ (Heap.mapw hH22 (n := 1) rfl) hwholeD12.1 (hG.now hH22 (n := 4) rfl) hin0 hl24 (by omega) (by omega)) (fun u25 w23 lo26 hi27 hH24 hv28 => ?_)
   have hH29 := Heap.toOw hH24 (n := 0) rfl
   refine oA hH29 rfl rfl (oA hH29 rfl rfl (ops_nil (thn_n (ret ?_))))
   have hH30 := (hH29.sub (List.Sublist.cons_cons _ (sC (sC (sC (sC sR))))))
   refine fin (hH30.front (n := 1) rfl) (fun w' hf => (res2 rfl (show RV _ _ _ (.tmp 4) _ from rfl) (show RV _ _ _ (.tmp 5) _ from rfl))) (fun w' hf => ?_)
   first | (rw [B.gr1 hcn]; exact ⟨_, rfl, own_nil⟩) | (rw [B.gr2 hc0 (by omega)]; exact ⟨_, rfl, own_nil⟩) | (rw [B.gr3 hc0 (by omega)]; exact ⟨_, rfl, Heap.own hf (n := 0) rfl⟩)
  ·skip
   refine cond_t rfl (not_decide_t hc20) ?_
   refine seq (region (oA hH19 rfl rfl (oA hH19 rfl rfl (ops_nil (thn_n (ret (blk_r (thn_r ?_))))))))
   have hH31 := (hH19.sub (sC (sC (sC sR))))
   refine fin hH31 (fun w' hf => (res2 rfl (show RV _ _ _ (.tmp 4) _ from rfl) (show RV _ _ _ (.tmp 5) _ from rfl))) (fun w' hf => ?_)
   first | (rw [B.gr1 hcn]; exact ⟨_, rfl, own_nil⟩) | (rw [B.gr2 hc0 (by omega)]; exact ⟨_, rfl, own_nil⟩) | (rw [B.gr3 hc0 (by omega)]; exact ⟨_, rfl, Heap.own hf (n := 0) rfl⟩)
 ·skip
  have hcn : ¬ B.ck l = 0 := ‹_›
  refine region ?_
  refine ops_y hH3 rfl rfl (yv_loadA (cs := [v]) T.agg24 rfl rfl (fun _ hw => Heap.cellsw hw (n := 0) rfl (k := 0) rfl)) ?_
  refine op_fnV rfl rfl rfl hH3 (c56b (h0.now hH3 (n := 1) rfl) (by omega) hcn) (fun w32 hH33 => ?_)
  refine oM hH33 rfl rfl (ops_y hH33 rfl rfl (yv_extract rfl rfl) (ops_y hH33 rfl rfl (yv_extract rfl rfl) (oA hH33 rfl rfl (oA hH33 rfl rfl (ops_nil (thn_n (seq (block (seq ?_)))))))))
  refine region (oM hH33 rfl rfl ?_)
  refine ops_y hH33 rfl rfl (yv_neq rfl rfl) ?_
  refine oA hH33 rfl rfl (ops_nil (thn_n ?_))
  have hc34 : ¬ ((B.ck l) = 0) := hcn
  refine cond_t rfl (not_decide_t hc34) ?_
  refine seq (region (oM hH33 rfl rfl (oA hH33 rfl rfl (oA hH33 rfl rfl (ops_nil (thn_n (ret (blk_r (thn_r ?_)))))))))
  have hH35 := (hH33.sub (sC sR))
  refine fin hH35 (fun w' hf => (res2 rfl (show RV _ _ _ (.tmp 4) _ from rfl) (show RV _ _ _ (.tmp 5) _ from rfl))) (fun w' hf => ?_)
  first | (rw [B.gr1 hcn]; exact ⟨_, rfl, own_nil⟩) | (rw [B.gr2 hc0 (by omega)]; exact ⟨_, rfl, own_nil⟩) | (rw [B.gr3 hc0 (by omega)]; exact ⟨_, rfl, Heap.own hf (n := 0) rfl⟩)
end Go.Fip
