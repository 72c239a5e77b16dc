/- Walks of the law, and what it alone needs, by program (wip/tools). -/
import Derived.Test.YtfomadbnfcadnaaGreatDoorMJ
set_option linter.unusedVariables false
set_option linter.unusedSimpArgs false
set_option linter.unusedSectionVars false
set_option linter.unnecessarySimpa false
namespace Go.Fip
open Go.ChangeShapes Go.WideShapes Go.ChangeAt Go.RowKit
section
variable {H : Type} {enc : TypeId × Value → H} {P : Program} {w : World}
theorem trodAll_below (hl : laidOutB P = true) {W W' : World} (hb : Below W.heap.size W W') : ∀ (ts : List TypeId) (vs : List Value) (ds : List (DataW H)) (ps : List MemPlace), (ts.all fun t => P.readableRec t && decide (t < P.types.size)) = true →
    DataW.TrodAll enc P W 0 (fun _ => true) true ts vs ds ps → (∀ x ∈ ps, x.block < W.heap.size) → DataW.TrodAll enc P W' 0 (fun b => decide (b < W.heap.size)) true ts vs ds ps
  | [], vs, ds, ps, _, h, _ => by
    obtain ⟨rfl, rfl, rfl⟩ := trodAll_nil h
    rfl
  | t :: ts, vs, ds, ps, hr, h, hlt => by
    obtain ⟨v, vs, d, ds, p, q, rfl, rfl, rfl, h1, h2⟩ := trodAll_cons h
    simp only [List.all_cons, Bool.and_eq_true, decide_eq_true_eq] at hr
    exact ⟨p, q, Below.trod hl hr.1.1 hr.1.2 h1 hb (fun x hx => hlt x (List.mem_append_left _ hx)), trodAll_below hl hb ts vs ds q (by simpa using hr.2) h2 (fun x hx => hlt x (List.mem_append_right _ hx)), rfl⟩
theorem law_post {f : Func} {s : ChangeSpec} {apart fresh : Bool} {W W' : World} {args : Array Value} {ds : List (DataW H)} {before p : List MemPlace} {tb : TypeId} (hl : laidOutB P = true) (hb : Below W.heap.size W W')
    (hr : (f.params.toList.all fun t => P.readableRec t && decide (t < P.types.size)) = true) (hv : s.vars = []) (hW : DataW.Whole enc P f.params.toList s.vars apart W args.toList ds [] before)
    (hA : DataW.TrodAll enc P W 0 (fun _ => true) true f.params.toList args.toList ds p) (hp : before = p) (hrt : f.resultTypes = #[tb]) (htb : P.underlying tb = some .bool) (hs : s.fn H (ds ++ []) = { results := [.lit (.bool true)], args := ds }) :
    s.post enc P f apart fresh false false W args (.bool true) W' := by
  subst hp
  refine ⟨ds, [], before, [], before, [], hW, ?_, ?_, ?_, Below.frame hb _, fun h => by cases h⟩
  · rw [hs, hrt]; exact trodAll_mk1 (shut_bool htb _)
  · rw [hs]; exact trodAll_below hl hb _ _ _ _ hr hA (fun x hx => by simpa using hW.lt x hx)
  · rw [hs, hv]; rfl
end
end Go.Fip
namespace Go.Fip.B
open Go.Fip
def inj (l : List (List UInt8)) : Prop := ∀ x ∈ l, ∀ y ∈ l, sm x = sm y → x = y
theorem inj.sub {l m : List (List UInt8)} (h : inj m) (hs : ∀ x ∈ l, x ∈ m) : inj l := fun x hx y hy e => h x (hs x hx) y (hs y hy) e
end Go.Fip.B
namespace Go.Fip.B
open Go.Fip
theorem ord_srt' {l : List En} (h : Ord l) : l.Pairwise bef := by
  rw [List.pairwise_iff_getElem]
  intro i j hi hj hij
  have := ord_all h j i hij hj
  rwa [nth_nat hi, nth_nat hj] at this
theorem dup_pw' {l : List En} (h : NoDup l) : l.Pairwise fun x y => ¬ x.n = y.n := by
  rw [List.pairwise_iff_getElem]
  intro i j hi hj hij
  have := h j hj i hij
  rwa [nth_nat hi, nth_nat hj] at this
theorem ck_sub {l m : List En} (h : ck l = 0) (hs : m.Sublist l) : ck m = 0 := by
  obtain ⟨h24, hin, hns, hnd, hord⟩ := ck_iff.1 h
  have hmem : ∀ i : Nat, i < m.length → ∃ j : Nat, j < l.length ∧ nth m (i : Int) = nth l (j : Int) := fun i hi => by
    have h1 : m[i] ∈ l := hs.subset (List.getElem_mem hi)
    obtain ⟨j, hj, e⟩ := List.getElem_of_mem h1
    exact ⟨j, hj, by rw [nth_nat hi, nth_nat hj, e]⟩
  have hp : m.Pairwise bef := (ord_srt' hord).sublist hs
  have hd : m.Pairwise fun x y => ¬ x.n = y.n := (dup_pw' hnd).sublist hs
  refine ck_iff.2 ⟨Nat.le_trans hs.length_le h24, fun i hi => ?_, fun i hi => ?_, fun i hi k hk => ?_, fun i hi h1 => ?_⟩
  · obtain ⟨j, hj, e⟩ := hmem i hi; rw [e]; exact hin j hj
  · obtain ⟨j, hj, e⟩ := hmem i hi; rw [e]; exact hns j hj
  · have := List.pairwise_iff_getElem.1 hd k i (by omega) hi hk
    rwa [nth_nat (by omega), nth_nat hi]
  · have := List.pairwise_iff_getElem.1 hp (i - 1) i (by omega) hi (by omega)
    rw [show (i : Int) - 1 = ((i - 1 : Nat) : Int) by omega, nth_nat (by omega), nth_nat hi]
    exact this
def without (l : List En) (i : Nat) : List En := l.take i ++ l.drop (i + 1)
theorem without_sub {l : List En} {i : Nat} : (without l i).Sublist l := by
  unfold without
  have h1 : (l.drop (i + 1)).Sublist (l.drop i) := by
    rw [show l.drop (i + 1) = (l.drop i).drop 1 by rw [List.drop_drop]]
    exact List.drop_sublist 1 _
  have := (List.Sublist.refl (l.take i)).append h1
  rwa [List.take_append_drop] at this
theorem bal_app {l m : List En} {a d : Int} : bal (l ++ m) a d = bal l a d + bal m a d := by unfold bal; simp
theorem bal_without {l : List En} {i : Nat} (hi : i < l.length) {a d : Int} : bal l a d - bal (without l i) a d = eff a d (nth l (i : Int)) := by
  have h : l = l.take i ++ (nth l (i : Int) :: l.drop (i + 1)) := by
    rw [nth_nat hi, ← List.drop_eq_getElem_cons hi, List.take_append_drop]
  have h1 : bal l a d = bal (l.take i) a d + (eff a d (nth l (i : Int)) + bal (l.drop (i + 1)) a d) := by
    conv => lhs; rw [h]
    rw [bal_app]; unfold bal; simp
  rw [h1]
  unfold without
  rw [bal_app]
  omega
theorem bal_bd : ∀ {l : List En} (_ : ∀ e ∈ l, isEn e) (a d : Int), -1000000 * (l.length : Int) ≤ bal l a d ∧ bal l a d ≤ 1000000 * (l.length : Int)
  | [], _, a, d => by simp [bal]
  | e :: l, h, a, d => by
    have ih := bal_bd (l := l) (fun x hx => h x (List.mem_cons_of_mem _ hx)) a d
    have he := eff_bd (a := a) (d := d) (h e (List.mem_cons_self ..))
    have h1 : bal (e :: l) a d = eff a d e + bal l a d := by unfold bal; simp
    rw [h1]
    simp only [List.length_cons]
    omega
theorem inR_mem {l : List En} (h : InR l) : ∀ e ∈ l, isEn e := fun e he => by
  obtain ⟨i, hi, rfl⟩ := List.getElem_of_mem he
  have := h i hi
  rwa [nth_nat hi] at this
theorem bal24 {l : List En} (h : ck l = 0) (a d : Int) : -24000000 ≤ bal l a d ∧ bal l a d ≤ 24000000 := by
  obtain ⟨h24, hin, _⟩ := ck_iff.1 h
  have := bal_bd (inR_mem hin) a d
  omega
def tot (l : List En) (d : Int) : Nat → Int
  | 0 => 0
  | k + 1 => tot l d k + bal l (k : Int) d
def teff (e : En) (d : Int) : Nat → Int
  | 0 => 0
  | k + 1 => teff e d k + eff (k : Int) d e
theorem tot_cons {e : En} {l : List En} {d : Int} : ∀ k, tot (e :: l) d k = teff e d k + tot l d k
  | 0 => rfl
  | k + 1 => by
    have h1 : bal (e :: l) (k : Int) d = eff (k : Int) d e + bal l (k : Int) d := by unfold bal; simp
    show tot (e :: l) d k + bal (e :: l) (k : Int) d = teff e d k + eff (k : Int) d e + (tot l d k + bal l (k : Int) d)
    rw [tot_cons k, h1]; omega
theorem teff_at {e : En} {d : Int} (h : isEn e) : ∀ k : Nat, teff e d k = if d < e.d then 0 else (if e.t < (k : Int) then e.a else 0) - (if e.f < (k : Int) then e.a else 0)
  | 0 => by
    unfold isEn at h
    show (0 : Int) = _
    repeat' split
    all_goals omega
  | k + 1 => by
    have ih := teff_at (d := d) h k
    show teff e d k + eff (k : Int) d e = _
    rw [ih]
    unfold eff
    unfold isEn at h
    repeat' split
    all_goals omega
theorem tot_ten : ∀ {l : List En} (_ : ∀ e ∈ l, isEn e) (d : Int), tot l d 10 = 0
  | [], _, d => by simp [tot, bal]
  | e :: l, h, d => by
    have he := h e (List.mem_cons_self ..)
    rw [tot_cons, tot_ten (fun x hx => h x (List.mem_cons_of_mem _ hx)) d, teff_at he]
    unfold isEn at he
    repeat' split
    all_goals omega
theorem tot_bd {l : List En} (h : ck l = 0) (d : Int) : ∀ k : Nat, -24000000 * (k : Int) ≤ tot l d k ∧ tot l d k ≤ 24000000 * (k : Int)
  | 0 => by simp [tot]
  | k + 1 => by
    have ih := tot_bd h d k
    have hb := bal24 h (k : Int) d
    show _ ≤ tot l d k + bal l (k : Int) d ∧ tot l d k + bal l (k : Int) d ≤ _
    omega
end Go.Fip.B
namespace Go.Fip
open Go.Proofs Go.RowKit
theorem yv_negI {P : Program} {N : Nat} {ds : List Deferred} {env : Env} {S : World → Prop} {x : Operand} {T : TypeId} {a : Int} (hx : ev env x = some (.int .i64 a)) (h : -9223372036854775807 ≤ a ∧ a ≤ 9223372036854775807) : Yv P N ds env (.unOp .neg T x) (.int .i64 (-a)) S :=
 yv_un hx fun w => by
  have e : IntKind.i64.wrap (-a) = -a := wrap_i64 (by omega)
  simp [Op.unary, Op.intArith, e]
theorem c12 {v : Value} {l : List En} {w : World} (h0 : Rd encE 5 v l w) (hG : Gl w) {d b : Int} (hb : 0 ≤ b ∧ b ≤ 255)  :
  Fn Tryz.prog 12 [(.agg #[v]), (.int .i64 d), (.int .u8 b)].toArray w (fun u _ => u = .bool true) := by
 refine fn_of' (args := [(.agg #[v]), (.int .i64 d), (.int .u8 b)]) Tryz.func12 rfl (ent Tryz.func12 (by kernel_rfl) rfl) rfl rfl (fun hH => ?_)
 refine seq (region ?_)
 refine op_box (us := [v]) rfl rfl rfl hH (fun b1 w2 hH3 => ?_)
 refine ops_y hH3 rfl rfl (yv_assign rfl) (ops_nil (thn_n (seq (seq (region ?_)))))
 refine ops_y hH3 rfl rfl (yv_loadA (cs := [v]) T.agg24 rfl rfl (fun _ hw => Heap.cellsw hw (n := 0) rfl (k := 0) rfl)) ?_
 refine op_fnV rfl rfl rfl hH3 (c43 (h0.now hH3 (n := 1) rfl)) (fun w4 hH5 => ?_)
 refine ops_y hH5 rfl rfl (yv_not rfl) ?_
 refine ops_y hH5 rfl rfl (yv_move rfl) ?_
 by_cases hc6 : B.ck l = 0
 ·skip
  refine guard_yes rfl rfl (not_decide_n hc6) ?_
  refine ops_y hH5 rfl rfl (yv_field T.f24_0 rfl) ?_
  refine guard_yes rfl rfl (not_decide_n hc6) ?_
  refine ops_y hH5 rfl rfl (yv_load T.one22 rfl (fun _ hw => Heap.cellw hw (n := 0) rfl rfl)) ?_
  refine guard_yes rfl rfl (not_decide_n hc6) ?_
  refine ops_y hH5 rfl rfl (yv_len T.sl22 rfl (h0.now hH5 (n := 1) rfl).is) ?_
  refine guard_yes rfl rfl (not_decide_n hc6) ?_
  refine ops_y hH5 rfl rfl (yv_eql rfl rfl) ?_
  refine ops_y hH5 rfl rfl (yv_pick_f rfl (not_decide_n hc6) rfl) ?_
  refine ops_nil (thn_n ?_)
  by_cases hc7 : (l.length : Int) = 0
  ·skip
   refine cond_t rfl (decide_eq_true hc7) ?_
   refine seq (region ?_)
   refine op_fnV rfl rfl rfl hH5 (c18 (hG.now hH5 (n := 1) rfl)) (fun w8 hH9 => ?_)
   refine ops_y hH9 rfl rfl (yv_assign rfl) (ops_nil (thn_n (ret (thn_r ?_))))
   have hH10 := (hH9.sub (List.Sublist.cons _ (List.Sublist.refl _)))
   refine fin hH10 (fun w' hf => (res1 rfl (show RV _ _ _ (.tmp 6) _ from rfl))) (fun w' hf => ?_)
   first | rfl | exact hbad.elim | (exfalso; subst hk10; omega)
  ·skip
   refine cond_f rfl (decide_eq_false hc7) ?_
   refine skip (thn_n (seq ?_))
   have hc0 : B.ck l = 0 := by first | assumption | exact Decidable.not_not.1 ‹_›
   have hbk := B.ck_iff.1 hc0
   have hin0 := hbk.2.1
   have hl24 := hbk.1
   have hl1 : 1 ≤ l.length := by omega
   have hro := B.ro2 hc0
   obtain ⟨i, hi⟩ : ∃ i : Nat, (i : Int) = b % (l.length : Int) := ⟨(b % (l.length : Int)).toNat, Int.toNat_of_nonneg (Int.emod_nonneg _ (by omega))⟩
   have hil : i < l.length := by have := Int.emod_lt_of_pos b (show (0 : Int) < (l.length : Int) by omega); omega
   have hrs : ((([] : List En) ++ (l.take (i : Int).toNat)) ++ (l.drop ((i : Int) + 1).toNat)) = B.without l i := by unfold B.without; rw [List.nil_append, Int.toNat_natCast, show ((i : Int) + 1).toNat = i + 1 by omega]
   have hcr : B.ck (B.without l i) = 0 := B.ck_sub hc0 B.without_sub
   have hone := hin0 i hil
   have hlt : (l.take (i : Int).toNat).length ≤ 24 := by rw [List.length_take]; omega
   have hld : (l.drop ((i : Int) + 1).toNat).length ≤ 24 := by rw [List.length_drop]; omega
   have hself := hbk.2.2.1 i hil
   refine region (ops_y hH5 rfl rfl (yv_move rfl) ?_)
   refine ops_y hH5 rfl rfl (yv_conv Tryz.underlying5 Tryz.underlying3 rfl (wrap_i64 (by omega))) ?_
   refine ops_y hH5 rfl rfl (yv_field T.f24_0 rfl) ?_
   refine ops_y hH5 rfl rfl (yv_load T.one22 rfl (fun _ hw => Heap.cellw hw (n := 0) rfl rfl)) ?_
   refine ops_y hH5 rfl rfl (yv_len T.sl22 rfl (h0.now hH5 (n := 1) rfl).is) ?_
   refine ops_y hH5 rfl rfl (yv_cast (show _ = (i : Int) from hi.symm) (yv_rem rfl rfl (by omega) (by omega))) ?_
   refine ops_y hH5 rfl rfl (yv_assign rfl) (ops_nil (thn_n (seq (region ?_))))
   refine ops_y hH5 rfl rfl (yv_field T.f24_0 rfl) ?_
   refine ops_y hH5 rfl rfl (yv_load T.one22 rfl (fun _ hw => Heap.cellw hw (n := 0) rfl rfl)) ?_
   refine ops_y hH5 rfl rfl (yv_move rfl) ?_
   refine ops_y hH5 rfl rfl (yv_index T.sl22 rfl rfl (h0.now hH5 (n := 1) rfl).is (by omega)) ?_
   refine ops_y hH5 rfl rfl (yv_loadA (cs := [(.int .i64 ((nth l (i : Int)).n)), (.int .i64 ((nth l (i : Int)).d)), (.int .i64 ((nth l (i : Int)).f)), (.int .i64 ((nth l (i : Int)).t)), (.int .i64 ((nth l (i : Int)).a))]) T.agg38 rfl rfl (fun _ hw => Rd.atA (h0.now hw (n := 1) rfl) (i := (i : Int)) (by omega))) ?_
   refine op_alloc (z := (.agg #[(.int .i64 0), (.int .i64 0), (.int .i64 0), (.int .i64 0), (.int .i64 0)])) (us := [(.int .i64 0), (.int .i64 0), (.int .i64 0), (.int .i64 0), (.int .i64 0)]) (fun _ => by kernel_rfl) rfl rfl hH5 (fun b11 w12 hH13 => ?_)
   refine op_store (n := 0) (j := 0) (us := [(.int .i64 ((nth l (i : Int)).n)), (.int .i64 ((nth l (i : Int)).d)), (.int .i64 ((nth l (i : Int)).f)), (.int .i64 ((nth l (i : Int)).t)), (.int .i64 ((nth l (i : Int)).a))]) rfl rfl hH13 rfl T.sz38 rfl rfl rfl (by rfl) (fun w14 hH15 => ?_)
   refine ops_nil (thn_n ?_)
   refine cut (S := World × Nat × Nat × Nat × Value) (fun (w0, b3, b8, b9, v9) => [(3, (.pointer (some ⟨b3, 0, none⟩))), (8, (.pointer (some ⟨b8, 0, none⟩))), (9, (.pointer (some ⟨b9, 0, none⟩))), (1, (.int .i64 d)), (6, (.bool false))]) (fun (w0, b3, b8, b9, v9) w1 => Heap [base w0] w1 ∧ Below w.heap.size w w0 ∧ Bx b3 24 [v] w0 ∧ Bx b8 38 [(.int .i64 ((nth l (i : Int)).n)), (.int .i64 ((nth l (i : Int)).d)), (.int .i64 ((nth l (i : Int)).f)), (.int .i64 ((nth l (i : Int)).t)), (.int .i64 ((nth l (i : Int)).a))] w0 ∧ Bx b9 24 [v9] w0 ∧ Rd encE 5 v9 (B.without l i) w0) ?_ ?_
   ·skip
    refine region_drawY (fun w' => Heap [bx b11 38 [(.int .i64 ((nth l (i : Int)).n)), (.int .i64 ((nth l (i : Int)).d)), (.int .i64 ((nth l (i : Int)).f)), (.int .i64 ((nth l (i : Int)).t)), (.int .i64 ((nth l (i : Int)).a))], bx b1 24 [v], base w] w') [14] T.mixed (fun w16 hr17 => ?_)
    have hH18 := hH15.redrawn hr17
    refine any_takesT [1, 3, 6, 8, 9] (by kernel_rfl)  _ _ _ (by kernel_rfl) ?_
    refine qs_y rfl rfl (yv_field T.f24_0 rfl) ?_
    refine qs_y rfl rfl (yv_move rfl) ?_
    refine qs_y rfl rfl (yv_field T.f24_0 rfl) ?_
    refine qs_y rfl rfl (yv_move rfl) ?_
    refine qs_y rfl rfl (yv_add rfl rfl (by omega)) ?_
    refine qs_nil ?_
    refine any_takesY [2, 7] (by kernel_rfl) hH18 _ _ _ (by kernel_rfl) ?_
    refine qs_y rfl rfl (yv_load T.one22 rfl (fun _ hw => Heap.cellw hw (n := 1) rfl rfl)) ?_
    refine qs_y rfl rfl (yv_load T.one22 rfl (fun _ hw => Heap.cellw hw (n := 1) rfl rfl)) ?_
    refine qs_nil ?_
    refine any_takesT [4, 10] (by kernel_rfl)  _ _ _ (by kernel_rfl) ?_
    refine qs_y rfl rfl (yv_cut_hi T.sl22 rfl rfl (h0.now hH18 (n := 2) rfl).is (by omega)) ?_
    refine qs_y rfl rfl (yv_cut_lo T.sl22 rfl rfl (h0.now hH18 (n := 2) rfl).is (by omega)) ?_
    refine qs_nil ?_
    refine any_allY [0, 13] (by kernel_rfl) rfl ?_
    refine ⟨⟨_, rfl, ?_⟩, ⟨_, rfl, ?_⟩, trivial⟩
    ·skip
     refine op_lit (us := []) T.el22_encE ([] : List En) rfl (by decide) rfl (fun a ha => by simp) (fun w => by kernel_rfl) hH18 (fun u19 lo21 hi22 w20 hH23 => ?_)
     refine ops_nil ?_
     refine ⟨fun _ _ => (hH23.sub (List.Sublist.cons _ (List.Sublist.refl _))), ?_⟩
     refine any_allY [5, 13] (by kernel_rfl) rfl ?_
     refine ⟨⟨_, rfl, ?_⟩, ⟨_, rfl, ?_⟩, trivial⟩
     ·skip
      refine op_append (n := 0) T.el22_encE rfl rfl rfl hH23 rfl (Rd.upto (h0.now hH23 (n := 3) rfl) (hi := (i : Int).toNat) (by omega)) (by first | omega | (simp only [List.length_append, List.length_cons, List.length_nil]; omega)) (fun u24 lo26 hi27 w25 hH28 => ?_)
      refine ops_nil ?_
      refine ⟨fun _ _ => (hH28.sub (List.Sublist.cons _ (List.Sublist.refl _))), ?_⟩
      refine any_allY [11, 13] (by kernel_rfl) rfl ?_
      refine ⟨⟨_, rfl, ?_⟩, ⟨_, rfl, ?_⟩, trivial⟩
      ·skip
       refine op_append (n := 0) T.el22_encE rfl rfl rfl hH28 rfl (Rd.from (h0.now hH28 (n := 3) rfl) (lo := ((i : Int) + 1).toNat) (by omega)) (by first | omega | (simp only [List.length_append, List.length_cons, List.length_nil]; omega)) (fun u29 lo31 hi32 w30 hH33 => ?_)
       refine ops_nil ?_
       refine ⟨fun _ _ => (hH33.sub (List.Sublist.cons _ (List.Sublist.refl _))), ?_⟩
       obtain ⟨_, _, hb34, _⟩ := (Heap.rdw T.el22_encE hH33 (n := 0) rfl).is
       refine any_takesT [12] (by kernel_rfl)  _ _ _ (by kernel_rfl) ?_
       refine qs_y rfl rfl (yv_build (v := (.agg #[u29])) (us := [(0, u29)]) (fun a ha => by simp [ha.ev (show ev _ (.tmp 50) = some _ from rfl)]) (fun w => by rw [hb34]; kernel_rfl)) ?_
       refine qs_nil ?_
       refine any_allY [13] (by kernel_rfl) rfl ?_
       refine ⟨⟨_, rfl, ?_⟩, trivial⟩
       ·skip
        refine op_alloc (z := (.agg #[(.slice none 0 0)])) (us := [(.slice none 0 0)]) (fun _ => by kernel_rfl) rfl rfl hH33 (fun b35 w36 hH37 => ?_)
        refine ops_nil ?_
        refine ⟨fun _ _ => (hH37.sub (List.Sublist.cons _ (List.Sublist.cons _ (List.Sublist.refl _)))), ?_⟩
        refine any_allY [14] (by kernel_rfl) rfl ?_
        refine ⟨⟨_, rfl, ?_⟩, trivial⟩
        ·skip
         refine op_store (n := 0) (j := 0) (us := [u29]) rfl rfl hH37 rfl T.sz24 rfl rfl rfl (all_one (SliceIs.one1 (Heap.rdw T.el22_encE hH37 (n := 1) rfl).is) rfl) (fun w38 hH39 => ?_)
         refine ops_nil ?_
         refine ⟨(fun h => by cases h), ?_⟩
         refine any_doneY (by kernel_rfl) ?_
         refine mid_n (w38, b1, b11, b35, u29) (Sub.cons rfl (Sub.cons rfl (Sub.cons rfl (Sub.cons rfl (Sub.cons rfl (Sub.nil _)))))) ?_
         exact ⟨Heap.start w38, hH39.get (n := 4) rfl, Heap.bxw hH39 (n := 3) rfl, Heap.bxw hH39 (n := 2) rfl, Heap.bxw hH39 (n := 0) rfl, (by rw [← hrs]; exact (Heap.rdw T.el22_encE hH39 (n := 1) rfl))⟩
      ·skip
       refine op_alloc (z := (.agg #[(.slice none 0 0)])) (us := [(.slice none 0 0)]) (fun _ => by kernel_rfl) rfl rfl hH28 (fun b40 w41 hH42 => ?_)
       refine ops_nil ?_
       refine ⟨fun _ _ => (hH42.sub (List.Sublist.cons _ (List.Sublist.cons _ (List.Sublist.refl _)))), ?_⟩
       refine any_allY [11] (by kernel_rfl) rfl ?_
       refine ⟨⟨_, rfl, ?_⟩, trivial⟩
       ·skip
        refine op_append (n := 1) T.el22_encE rfl rfl rfl hH42 rfl (Rd.from (h0.now hH42 (n := 4) rfl) (lo := ((i : Int) + 1).toNat) (by omega)) (by first | omega | (simp only [List.length_append, List.length_cons, List.length_nil]; omega)) (fun u43 lo45 hi46 w44 hH47 => ?_)
        refine ops_nil ?_
        refine ⟨fun _ _ => (hH47.sub (List.Sublist.cons _ (List.Sublist.cons _ (List.Sublist.refl _)))), ?_⟩
        obtain ⟨_, _, hb48, _⟩ := (Heap.rdw T.el22_encE hH47 (n := 1) rfl).is
        refine any_takesT [12] (by kernel_rfl)  _ _ _ (by kernel_rfl) ?_
        refine qs_y rfl rfl (yv_build (v := (.agg #[u43])) (us := [(0, u43)]) (fun a ha => by simp [ha.ev (show ev _ (.tmp 50) = some _ from rfl)]) (fun w => by rw [hb48]; kernel_rfl)) ?_
        refine qs_nil ?_
        refine any_allY [14] (by kernel_rfl) rfl ?_
        refine ⟨⟨_, rfl, ?_⟩, trivial⟩
        ·skip
         refine op_store (n := 0) (j := 0) (us := [u43]) rfl rfl hH47 rfl T.sz24 rfl rfl rfl (all_one (SliceIs.one1 (Heap.rdw T.el22_encE hH47 (n := 1) rfl).is) rfl) (fun w49 hH50 => ?_)
         refine ops_nil ?_
         refine ⟨(fun h => by cases h), ?_⟩
         refine any_doneY (by kernel_rfl) ?_
         refine mid_n (w49, b1, b11, b40, u43) (Sub.cons rfl (Sub.cons rfl (Sub.cons rfl (Sub.cons rfl (Sub.cons rfl (Sub.nil _)))))) ?_
         exact ⟨Heap.start w49, hH50.get (n := 4) rfl, Heap.bxw hH50 (n := 3) rfl, Heap.bxw hH50 (n := 2) rfl, Heap.bxw hH50 (n := 0) rfl, (by rw [← hrs]; exact (Heap.rdw T.el22_encE hH50 (n := 1) rfl))⟩
     ·skip
      refine op_alloc (z := (.agg #[(.slice none 0 0)])) (us := [(.slice none 0 0)]) (fun _ => by kernel_rfl) rfl rfl hH23 (fun b51 w52 hH53 => ?_)
      refine ops_nil ?_
      refine ⟨fun _ _ => (hH53.sub (List.Sublist.cons _ (List.Sublist.cons _ (List.Sublist.refl _)))), ?_⟩
      refine any_allY [5] (by kernel_rfl) rfl ?_
      refine ⟨⟨_, rfl, ?_⟩, trivial⟩
      ·skip
       refine op_append (n := 1) T.el22_encE rfl rfl rfl hH53 rfl (Rd.upto (h0.now hH53 (n := 4) rfl) (hi := (i : Int).toNat) (by omega)) (by first | omega | (simp only [List.length_append, List.length_cons, List.length_nil]; omega)) (fun u54 lo56 hi57 w55 hH58 => ?_)
       refine ops_nil ?_
       refine ⟨fun _ _ => (hH58.sub (List.Sublist.cons _ (List.Sublist.cons _ (List.Sublist.refl _)))), ?_⟩
       refine any_allY [11] (by kernel_rfl) rfl ?_
       refine ⟨⟨_, rfl, ?_⟩, trivial⟩
       ·skip
        refine op_append (n := 1) T.el22_encE rfl rfl rfl hH58 rfl (Rd.from (h0.now hH58 (n := 4) rfl) (lo := ((i : Int) + 1).toNat) (by omega)) (by first | omega | (simp only [List.length_append, List.length_cons, List.length_nil]; omega)) (fun u59 lo61 hi62 w60 hH63 => ?_)
        refine ops_nil ?_
        refine ⟨fun _ _ => (hH63.sub (List.Sublist.cons _ (List.Sublist.cons _ (List.Sublist.refl _)))), ?_⟩
        obtain ⟨_, _, hb64, _⟩ := (Heap.rdw T.el22_encE hH63 (n := 1) rfl).is
        refine any_takesT [12] (by kernel_rfl)  _ _ _ (by kernel_rfl) ?_
        refine qs_y rfl rfl (yv_build (v := (.agg #[u59])) (us := [(0, u59)]) (fun a ha => by simp [ha.ev (show ev _ (.tmp 50) = some _ from rfl)]) (fun w => by rw [hb64]; kernel_rfl)) ?_
        refine qs_nil ?_
        refine any_allY [14] (by kernel_rfl) rfl ?_
        refine ⟨⟨_, rfl, ?_⟩, trivial⟩
        ·skip
         refine op_store (n := 0) (j := 0) (us := [u59]) rfl rfl hH63 rfl T.sz24 rfl rfl rfl (all_one (SliceIs.one1 (Heap.rdw T.el22_encE hH63 (n := 1) rfl).is) rfl) (fun w65 hH66 => ?_)
         refine ops_nil ?_
         refine ⟨(fun h => by cases h), ?_⟩
         refine any_doneY (by kernel_rfl) ?_
         refine mid_n (w65, b1, b11, b51, u59) (Sub.cons rfl (Sub.cons rfl (Sub.cons rfl (Sub.cons rfl (Sub.cons rfl (Sub.nil _)))))) ?_
         exact ⟨Heap.start w65, hH66.get (n := 4) rfl, Heap.bxw hH66 (n := 3) rfl, Heap.bxw hH66 (n := 2) rfl, Heap.bxw hH66 (n := 0) rfl, (by rw [← hrs]; exact (Heap.rdw T.el22_encE hH66 (n := 1) rfl))⟩
    ·skip
     refine op_alloc (z := (.agg #[(.slice none 0 0)])) (us := [(.slice none 0 0)]) (fun _ => by kernel_rfl) rfl rfl hH18 (fun b67 w68 hH69 => ?_)
     refine ops_nil ?_
     refine ⟨fun _ _ => (hH69.sub (List.Sublist.cons _ (List.Sublist.refl _))), ?_⟩
     refine any_allY [0] (by kernel_rfl) rfl ?_
     refine ⟨⟨_, rfl, ?_⟩, trivial⟩
     ·skip
      refine op_lit (us := []) T.el22_encE ([] : List En) rfl (by decide) rfl (fun a ha => by simp) (fun w => by kernel_rfl) hH69 (fun u70 lo72 hi73 w71 hH74 => ?_)
      refine ops_nil ?_
      refine ⟨fun _ _ => (hH74.sub (List.Sublist.cons _ (List.Sublist.cons _ (List.Sublist.refl _)))), ?_⟩
      refine any_allY [5] (by kernel_rfl) rfl ?_
      refine ⟨⟨_, rfl, ?_⟩, trivial⟩
      ·skip
       refine op_append (n := 0) T.el22_encE rfl rfl rfl hH74 rfl (Rd.upto (h0.now hH74 (n := 4) rfl) (hi := (i : Int).toNat) (by omega)) (by first | omega | (simp only [List.length_append, List.length_cons, List.length_nil]; omega)) (fun u75 lo77 hi78 w76 hH79 => ?_)
       refine ops_nil ?_
       refine ⟨fun _ _ => (hH79.sub (List.Sublist.cons _ (List.Sublist.cons _ (List.Sublist.refl _)))), ?_⟩
       refine any_allY [11] (by kernel_rfl) rfl ?_
       refine ⟨⟨_, rfl, ?_⟩, trivial⟩
       ·skip
        refine op_append (n := 0) T.el22_encE rfl rfl rfl hH79 rfl (Rd.from (h0.now hH79 (n := 4) rfl) (lo := ((i : Int) + 1).toNat) (by omega)) (by first | omega | (simp only [List.length_append, List.length_cons, List.length_nil]; omega)) (fun u80 lo82 hi83 w81 hH84 => ?_)
        refine ops_nil ?_
        refine ⟨fun _ _ => (hH84.sub (List.Sublist.cons _ (List.Sublist.cons _ (List.Sublist.refl _)))), ?_⟩
        obtain ⟨_, _, hb85, _⟩ := (Heap.rdw T.el22_encE hH84 (n := 0) rfl).is
        refine any_takesT [12] (by kernel_rfl)  _ _ _ (by kernel_rfl) ?_
        refine qs_y rfl rfl (yv_build (v := (.agg #[u80])) (us := [(0, u80)]) (fun a ha => by simp [ha.ev (show ev _ (.tmp 50) = some _ from rfl)]) (fun w => by rw [hb85]; kernel_rfl)) ?_
        refine qs_nil ?_
        refine any_allY [14] (by kernel_rfl) rfl ?_
        refine ⟨⟨_, rfl, ?_⟩, trivial⟩
        ·skip
         refine op_store (n := 1) (j := 0) (us := [u80]) rfl rfl hH84 rfl T.sz24 rfl rfl rfl (all_one (SliceIs.one1 (Heap.rdw T.el22_encE hH84 (n := 0) rfl).is) rfl) (fun w86 hH87 => ?_)
         refine ops_nil ?_
         refine ⟨(fun h => by cases h), ?_⟩
         refine any_doneY (by kernel_rfl) ?_
         refine mid_n (w86, b1, b11, b67, u80) (Sub.cons rfl (Sub.cons rfl (Sub.cons rfl (Sub.cons rfl (Sub.cons rfl (Sub.nil _)))))) ?_
         exact ⟨Heap.start w86, hH87.get (n := 4) rfl, Heap.bxw hH87 (n := 3) rfl, Heap.bxw hH87 (n := 2) rfl, Heap.bxw hH87 (n := 1) rfl, (by rw [← hrs]; exact (Heap.rdw T.el22_encE hH87 (n := 0) rfl))⟩
   ·rintro ⟨w0, b3, b8, b9, v9⟩ w88 ⟨hH89, hbw, q3, q8, q9, hr9⟩
    show Holds _ _ _ _ _ [(3, (.pointer (some ⟨b3, 0, none⟩))), (8, (.pointer (some ⟨b8, 0, none⟩))), (9, (.pointer (some ⟨b9, 0, none⟩))), (1, (.int .i64 d)), (6, (.bool false))] _ _
    refine seq (region (ops_y hH89 rfl rfl (yv_assign rfl) (ops_nil (thn_n (seq (seq (region (ops_y hH89 rfl rfl (yv_assign rfl) (ops_nil ?_)))))))))
    refine thn_n (block ?_)
    refine loop (S := Nat) (fun k => [(10, (.int .i64 (B.tot l d k))), (11, (.int .i64 (k : Int))), (1, (.int .i64 d)), (3, (.pointer (some ⟨b3, 0, none⟩))), (8, (.pointer (some ⟨b8, 0, none⟩))), (9, (.pointer (some ⟨b9, 0, none⟩)))]) (fun k w1 => Heap [base w0] w1 ∧ k ≤ 10) (fun k => 10 - k) (0) (Sub.cons rfl (Sub.cons rfl (Sub.cons rfl (Sub.cons rfl (Sub.cons rfl (Sub.cons rfl (Sub.nil _))))))) ?_ ?_
    ·exact ⟨hH89, by omega⟩
    ·rintro k w90 ⟨hH91, hk⟩
     show Holds _ _ _ _ _ [(10, (.int .i64 (B.tot l d k))), (11, (.int .i64 (k : Int))), (1, (.int .i64 d)), (3, (.pointer (some ⟨b3, 0, none⟩))), (8, (.pointer (some ⟨b8, 0, none⟩))), (9, (.pointer (some ⟨b9, 0, none⟩)))] _ _
     refine seq (seq (region (ops_y hH91 rfl rfl (yv_move rfl) ?_)))
     refine ops_y hH91 rfl rfl (yv_leq rfl rfl) ?_
     refine ops_nil (thn_n ?_)
     by_cases hc92 : (k : Int) ≤ 9
     ·skip
      refine cond_t rfl (decide_eq_true hc92) ?_
      refine skip (thn_n (seq (block (seq ?_))))
      have hb1 : B.balR l (k : Int) d = (B.bal l (k : Int) d, 0) := B.bal3 hc0 (by omega)
      have hb2 : B.balR (B.without l i) (k : Int) d = (B.bal (B.without l i) (k : Int) d, 0) := B.bal3 hcr (by omega)
      have hbb1 := B.bal24 hc0 (k : Int) d
      have hbb2 := B.bal24 hcr (k : Int) d
      have hdf := B.bal_without hil (a := (k : Int)) (d := d)
      unfold B.eff at hdf
      unfold B.isEn at hone
      have htb := B.tot_bd hc0 d k
      refine region ?_
      refine ops_y hH91 rfl rfl (yv_loadA (cs := [v]) T.agg24 rfl rfl (fun _ hw => bx_cells (q3.now hw (n := 0) rfl) (k := 0) rfl)) ?_
      refine ops_y hH91 rfl rfl (yv_move rfl) (ops_y hH91 rfl rfl (yv_move rfl) ?_)
      refine op_fnV rfl rfl rfl hH91 ((by have h := c19 (a := (k : Int)) (d := d) ((h0.below hbw).now hH91 (n := 0) rfl) (by first | omega | exact Nat.le_trans (B.ck_iff.1 hcr).1 (by decide)) ((hG.below hbw).now hH91 (n := 0) rfl); simp only [hb1] at h; exact h)) (fun w93 hH94 => ?_)
      refine ops_y hH94 rfl rfl (yv_move rfl) (ops_y hH94 rfl rfl (yv_extract rfl rfl) (ops_y hH94 rfl rfl (yv_extract rfl rfl) (ops_y hH94 rfl rfl (yv_assign rfl) (ops_y hH94 rfl rfl (yv_assign rfl) (ops_nil (thn_n (seq (region ?_))))))))
      refine ops_y hH94 rfl rfl (yv_loadA (cs := [v9]) T.agg24 rfl rfl (fun _ hw => bx_cells (q9.now hw (n := 0) rfl) (k := 0) rfl)) ?_
      refine ops_y hH94 rfl rfl (yv_move rfl) (ops_y hH94 rfl rfl (yv_move rfl) ?_)
      refine op_fnV rfl rfl rfl hH94 ((by have h := c19 (a := (k : Int)) (d := d) (hr9.now hH94 (n := 0) rfl) (by first | omega | exact Nat.le_trans (B.ck_iff.1 hcr).1 (by decide)) ((hG.below hbw).now hH94 (n := 0) rfl); simp only [hb2] at h; exact h)) (fun w95 hH96 => ?_)
      refine ops_y hH96 rfl rfl (yv_move rfl) (ops_y hH96 rfl rfl (yv_extract rfl rfl) (ops_y hH96 rfl rfl (yv_extract rfl rfl) (ops_y hH96 rfl rfl (yv_assign rfl) (ops_y hH96 rfl rfl (yv_assign rfl) (ops_nil (thn_n (seq (region (ops_y hH96 rfl rfl (yv_assign rfl) ?_)))))))))
      refine ops_nil (thn_n (seq (seq (region (ops_y hH96 rfl rfl (yv_move rfl) ?_)))))
      refine ops_y hH96 rfl rfl (yv_neq rfl rfl) ?_
      refine ops_y hH96 rfl rfl (yv_move rfl) (guard_yes rfl rfl rfl (ops_y hH96 rfl rfl (yv_move rfl) (guard_yes rfl rfl rfl ?_)))
      refine ops_y hH96 rfl rfl (yv_neq rfl rfl) ?_
      refine ops_y hH96 rfl rfl (yv_pick_f rfl rfl rfl) ?_
      refine ops_y hH96 rfl rfl (yv_move rfl) (guard_yes rfl rfl rfl (ops_y hH96 rfl rfl (yv_move rfl) (guard_yes rfl rfl rfl (ops_y hH96 rfl rfl (yv_move rfl) (guard_yes rfl rfl rfl ?_)))))
      refine ops_y hH96 rfl rfl (yv_negI rfl (by omega)) ?_
      refine guard_yes rfl rfl rfl ?_
      refine ops_y hH96 rfl rfl (yv_lss rfl rfl) ?_
      refine ops_y hH96 rfl rfl (yv_pick_f rfl rfl rfl) ?_
      refine ops_y hH96 rfl rfl (yv_move rfl) ?_
      by_cases hc97 : (B.bal l (k : Int) d) < (-24000000)
      ·skip
       refine guard_no rfl rfl (decide_eq_true hc97) rfl ?_
       refine guard_no rfl rfl (decide_eq_true hc97) rfl ?_
       refine guard_no rfl rfl (decide_eq_true hc97) rfl ?_
       refine ops_y hH96 rfl rfl (yv_pick_t rfl (decide_eq_true hc97) rfl) ?_
       refine ops_y hH96 rfl rfl (yv_move rfl) (guard_no rfl rfl rfl rfl (guard_no rfl rfl rfl rfl (guard_no rfl rfl rfl rfl (guard_no rfl rfl rfl rfl ?_))))
       refine ops_y hH96 rfl rfl (yv_pick_t rfl rfl rfl) ?_
       refine ops_y hH96 rfl rfl (yv_move rfl) (guard_no rfl rfl rfl rfl (guard_no rfl rfl rfl rfl (guard_no rfl rfl rfl rfl ?_)))
       refine ops_y hH96 rfl rfl (yv_pick_t rfl rfl rfl) ?_
       refine ops_nil (thn_n ?_)
       refine cond_t rfl rfl ?_
       refine seq ?_
       have hbad : False := by omega
       refine region (ops_y hH96 rfl rfl (yv_assign rfl) (ops_nil (thn_n (ret (thn_r (blk_r (thn_r (lp_r (blk_r ?_)))))))))
       refine thn_r ?_
       refine fin (Heap.unbase hH96 hbw) (fun w' hf => (res1 rfl (show RV _ _ _ (.tmp 6) _ from rfl))) (fun w' hf => ?_)
       first | rfl | exact hbad.elim | (exfalso; subst hk10; omega)
      ·skip
       refine guard_yes rfl rfl (decide_eq_false hc97) ?_
       refine ops_y hH96 rfl rfl (yv_move rfl) ?_
       refine guard_yes rfl rfl (decide_eq_false hc97) ?_
       refine ops_y hH96 rfl rfl (yv_move rfl) ?_
       refine guard_yes rfl rfl (decide_eq_false hc97) ?_
       refine ops_y hH96 rfl rfl (yv_gtr rfl rfl) ?_
       refine ops_y hH96 rfl rfl (yv_pick_f rfl (decide_eq_false hc97) rfl) ?_
       refine ops_y hH96 rfl rfl (yv_move rfl) ?_
       by_cases hc98 : 24000000 < (B.bal l (k : Int) d)
       ·skip
        refine guard_no rfl rfl (decide_eq_true hc98) rfl ?_
        refine guard_no rfl rfl (decide_eq_true hc98) rfl ?_
        refine guard_no rfl rfl (decide_eq_true hc98) rfl ?_
        refine guard_no rfl rfl (decide_eq_true hc98) rfl ?_
        refine ops_y hH96 rfl rfl (yv_pick_t rfl (decide_eq_true hc98) rfl) ?_
        refine ops_y hH96 rfl rfl (yv_move rfl) (guard_no rfl rfl rfl rfl (guard_no rfl rfl rfl rfl (guard_no rfl rfl rfl rfl ?_)))
        refine ops_y hH96 rfl rfl (yv_pick_t rfl rfl rfl) ?_
        refine ops_nil (thn_n ?_)
        refine cond_t rfl rfl ?_
        refine seq ?_
        have hbad : False := by omega
        refine region (ops_y hH96 rfl rfl (yv_assign rfl) (ops_nil (thn_n (ret (thn_r (blk_r (thn_r (lp_r (blk_r ?_)))))))))
        refine thn_r ?_
        refine fin (Heap.unbase hH96 hbw) (fun w' hf => (res1 rfl (show RV _ _ _ (.tmp 6) _ from rfl))) (fun w' hf => ?_)
        first | rfl | exact hbad.elim | (exfalso; subst hk10; omega)
       ·skip
        refine guard_yes rfl rfl (decide_eq_false hc98) ?_
        refine ops_y hH96 rfl rfl (yv_move rfl) ?_
        refine guard_yes rfl rfl (decide_eq_false hc98) ?_
        refine ops_y hH96 rfl rfl (yv_move rfl) ?_
        refine guard_yes rfl rfl (decide_eq_false hc98) ?_
        refine ops_y hH96 rfl rfl (yv_negI rfl (by omega)) ?_
        refine guard_yes rfl rfl (decide_eq_false hc98) ?_
        refine ops_y hH96 rfl rfl (yv_lss rfl rfl) ?_
        refine ops_y hH96 rfl rfl (yv_pick_f rfl (decide_eq_false hc98) rfl) ?_
        refine ops_y hH96 rfl rfl (yv_move rfl) ?_
        by_cases hc99 : (B.bal (B.without l i) (k : Int) d) < (-24000000)
        ·skip
         refine guard_no rfl rfl (decide_eq_true hc99) rfl ?_
         refine guard_no rfl rfl (decide_eq_true hc99) rfl ?_
         refine guard_no rfl rfl (decide_eq_true hc99) rfl ?_
         refine ops_y hH96 rfl rfl (yv_pick_t rfl (decide_eq_true hc99) rfl) ?_
         refine ops_nil (thn_n ?_)
         refine cond_t rfl rfl ?_
         refine seq ?_
         have hbad : False := by omega
         refine region (ops_y hH96 rfl rfl (yv_assign rfl) (ops_nil (thn_n (ret (thn_r (blk_r (thn_r (lp_r (blk_r ?_)))))))))
         refine thn_r ?_
         refine fin (Heap.unbase hH96 hbw) (fun w' hf => (res1 rfl (show RV _ _ _ (.tmp 6) _ from rfl))) (fun w' hf => ?_)
         first | rfl | exact hbad.elim | (exfalso; subst hk10; omega)
        ·skip
         refine guard_yes rfl rfl (decide_eq_false hc99) ?_
         refine ops_y hH96 rfl rfl (yv_move rfl) ?_
         refine guard_yes rfl rfl (decide_eq_false hc99) ?_
         refine ops_y hH96 rfl rfl (yv_move rfl) ?_
         refine guard_yes rfl rfl (decide_eq_false hc99) ?_
         refine ops_y hH96 rfl rfl (yv_gtr rfl rfl) ?_
         refine ops_y hH96 rfl rfl (yv_pick_f rfl (decide_eq_false hc99) rfl) ?_
         refine ops_nil (thn_n ?_)
         by_cases hc100 : 24000000 < (B.bal (B.without l i) (k : Int) d)
         ·skip
          refine cond_t rfl (decide_eq_true hc100) ?_
          refine seq ?_
          have hbad : False := by omega
          refine region (ops_y hH96 rfl rfl (yv_assign rfl) (ops_nil (thn_n (ret (thn_r (blk_r (thn_r (lp_r (blk_r ?_)))))))))
          refine thn_r ?_
          refine fin (Heap.unbase hH96 hbw) (fun w' hf => (res1 rfl (show RV _ _ _ (.tmp 6) _ from rfl))) (fun w' hf => ?_)
          first | rfl | exact hbad.elim | (exfalso; subst hk10; omega)
         ·skip
          refine cond_f rfl (decide_eq_false hc100) ?_
          refine skip (thn_n (seq (region (ops_y hH96 rfl rfl (yv_assign rfl) (ops_nil (thn_n (seq (seq (region ?_)))))))))
          refine ops_y hH96 rfl rfl (yv_move rfl) ?_
          refine ops_y hH96 rfl rfl (yv_field T.f38_3 rfl) ?_
          refine ops_y hH96 rfl rfl (yv_load T.one2 rfl (fun _ hw => bx_cell (q8.now hw (n := 0) rfl) rfl)) ?_
          refine ops_y hH96 rfl rfl (yv_eql rfl rfl) ?_
          refine ops_y hH96 rfl rfl (yv_move rfl) ?_
          by_cases hc101 : (k : Int) = ((nth l (i : Int)).t)
          ·skip
           refine guard_yes rfl rfl (decide_eq_true hc101) ?_
           refine ops_y hH96 rfl rfl (yv_field T.f38_1 rfl) ?_
           refine guard_yes rfl rfl (decide_eq_true hc101) ?_
           refine ops_y hH96 rfl rfl (yv_load T.one2 rfl (fun _ hw => bx_cell (q8.now hw (n := 0) rfl) rfl)) ?_
           refine guard_yes rfl rfl (decide_eq_true hc101) ?_
           refine ops_y hH96 rfl rfl (yv_move rfl) ?_
           refine guard_yes rfl rfl (decide_eq_true hc101) ?_
           refine ops_y hH96 rfl rfl (yv_leq rfl rfl) ?_
           refine ops_y hH96 rfl rfl (yv_pick_t rfl (decide_eq_true hc101) rfl) ?_
           refine ops_nil (thn_n ?_)
           by_cases hc102 : ((nth l (i : Int)).d) ≤ d
           ·skip
            refine cond_t rfl (decide_eq_true hc102) ?_
            refine region ?_
            refine ops_y hH96 rfl rfl (yv_field T.f38_4 rfl) ?_
            refine ops_y hH96 rfl rfl (yv_load T.one2 rfl (fun _ hw => bx_cell (q8.now hw (n := 0) rfl) rfl)) ?_
            refine ops_y hH96 rfl rfl (yv_assign rfl) (ops_nil (thn_n (seq (seq (region (ops_y hH96 rfl rfl (yv_move rfl) ?_))))))
            refine ops_y hH96 rfl rfl (yv_field T.f38_2 rfl) ?_
            refine ops_y hH96 rfl rfl (yv_load T.one2 rfl (fun _ hw => bx_cell (q8.now hw (n := 0) rfl) rfl)) ?_
            refine ops_y hH96 rfl rfl (yv_eql rfl rfl) ?_
            refine ops_y hH96 rfl rfl (yv_move rfl) ?_
            by_cases hc103 : (k : Int) = ((nth l (i : Int)).f)
            ·skip
             refine guard_yes rfl rfl (decide_eq_true hc103) ?_
             refine ops_y hH96 rfl rfl (yv_field T.f38_1 rfl) ?_
             refine guard_yes rfl rfl (decide_eq_true hc103) ?_
             refine ops_y hH96 rfl rfl (yv_load T.one2 rfl (fun _ hw => bx_cell (q8.now hw (n := 0) rfl) rfl)) ?_
             refine guard_yes rfl rfl (decide_eq_true hc103) ?_
             refine ops_y hH96 rfl rfl (yv_move rfl) ?_
             refine guard_yes rfl rfl (decide_eq_true hc103) ?_
             refine ops_y hH96 rfl rfl (yv_leq rfl rfl) ?_
             refine ops_y hH96 rfl rfl (yv_pick_t rfl (decide_eq_true hc103) rfl) ?_
             refine ops_nil (thn_n ?_)
             refine cond_t rfl (decide_eq_true hc102) ?_
             refine region ?_
             refine ops_y hH96 rfl rfl (yv_field T.f38_4 rfl) ?_
             refine ops_y hH96 rfl rfl (yv_load T.one2 rfl (fun _ hw => bx_cell (q8.now hw (n := 0) rfl) rfl)) ?_
             refine ops_y hH96 rfl rfl (yv_negI rfl (by omega)) ?_
             refine ops_y hH96 rfl rfl (yv_assign rfl) (ops_nil (thn_n (seq (seq (region (ops_y hH96 rfl rfl (yv_move rfl) (ops_y hH96 rfl rfl (yv_move rfl) ?_)))))))
             refine ops_y hH96 rfl rfl (yv_sub rfl rfl (by omega)) ?_
             refine ops_y hH96 rfl rfl (yv_move rfl) ?_
             refine ops_y hH96 rfl rfl (yv_neq rfl rfl) ?_
             refine ops_nil (thn_n ?_)
             by_cases hc104 : ((B.bal l (k : Int) d) - (B.bal (B.without l i) (k : Int) d)) = (-((nth l (i : Int)).a))
             ·skip
              refine cond_f rfl (not_decide_n hc104) ?_
              refine skip (thn_n (region (ops_y hH96 rfl rfl (yv_move rfl) (ops_y hH96 rfl rfl (yv_move rfl) ?_))))
              refine ops_y hH96 rfl rfl (yv_add rfl rfl (by omega)) ?_
              refine ops_y hH96 rfl rfl (yv_assign rfl) (ops_nil (blk_n (thn_n (region (ops_y hH96 rfl rfl (yv_move rfl) ?_)))))
              refine ops_y hH96 rfl rfl (yv_add rfl rfl (by omega)) ?_
              refine ops_y hH96 rfl rfl (yv_assign rfl) (ops_nil ?_)
              refine lp_n (k + 1) (Sub.cons rfl (Sub.cons rfl (Sub.cons rfl (Sub.cons rfl (Sub.cons rfl (Sub.cons rfl (Sub.nil _))))))) ?_ ?_
              ·exact ⟨hH96, by omega⟩
              ·first | (dsimp only; omega) | (show _ < _; omega)
             ·skip
              refine cond_t rfl (not_decide_t hc104) ?_
              refine seq ?_
              have hbad : False := by split at hdf <;> (try split at hdf) <;> (try split at hdf) <;> omega
              refine region (ops_y hH96 rfl rfl (yv_assign rfl) (ops_nil (thn_n (ret (thn_r (blk_r (thn_r (lp_r (blk_r ?_)))))))))
              refine thn_r ?_
              refine fin (Heap.unbase hH96 hbw) (fun w' hf => (res1 rfl (show RV _ _ _ (.tmp 6) _ from rfl))) (fun w' hf => ?_)
              first | rfl | exact hbad.elim | (exfalso; subst hk10; omega)
            ·skip
             refine guard_no rfl rfl (decide_eq_false hc103) rfl ?_
             refine guard_no rfl rfl (decide_eq_false hc103) rfl ?_
             refine guard_no rfl rfl (decide_eq_false hc103) rfl ?_
             refine guard_no rfl rfl (decide_eq_false hc103) rfl ?_
             refine ops_y hH96 rfl rfl (yv_pick_f rfl (decide_eq_false hc103) rfl) ?_
             refine ops_nil (thn_n ?_)
             refine cond_f rfl rfl ?_
             refine skip (thn_n (seq (seq (region (ops_y hH96 rfl rfl (yv_move rfl) (ops_y hH96 rfl rfl (yv_move rfl) ?_))))))
             refine ops_y hH96 rfl rfl (yv_sub rfl rfl (by omega)) ?_
             refine ops_y hH96 rfl rfl (yv_move rfl) ?_
             refine ops_y hH96 rfl rfl (yv_neq rfl rfl) ?_
             refine ops_nil (thn_n ?_)
             by_cases hc105 : ((B.bal l (k : Int) d) - (B.bal (B.without l i) (k : Int) d)) = ((nth l (i : Int)).a)
             ·skip
              refine cond_f rfl (not_decide_n hc105) ?_
              refine skip (thn_n (region (ops_y hH96 rfl rfl (yv_move rfl) (ops_y hH96 rfl rfl (yv_move rfl) ?_))))
              refine ops_y hH96 rfl rfl (yv_add rfl rfl (by omega)) ?_
              refine ops_y hH96 rfl rfl (yv_assign rfl) (ops_nil (blk_n (thn_n (region (ops_y hH96 rfl rfl (yv_move rfl) ?_)))))
              refine ops_y hH96 rfl rfl (yv_add rfl rfl (by omega)) ?_
              refine ops_y hH96 rfl rfl (yv_assign rfl) (ops_nil ?_)
              refine lp_n (k + 1) (Sub.cons rfl (Sub.cons rfl (Sub.cons rfl (Sub.cons rfl (Sub.cons rfl (Sub.cons rfl (Sub.nil _))))))) ?_ ?_
              ·exact ⟨hH96, by omega⟩
              ·first | (dsimp only; omega) | (show _ < _; omega)
             ·skip
              refine cond_t rfl (not_decide_t hc105) ?_
              refine seq ?_
              have hbad : False := by split at hdf <;> (try split at hdf) <;> (try split at hdf) <;> omega
              refine region (ops_y hH96 rfl rfl (yv_assign rfl) (ops_nil (thn_n (ret (thn_r (blk_r (thn_r (lp_r (blk_r ?_)))))))))
              refine thn_r ?_
              refine fin (Heap.unbase hH96 hbw) (fun w' hf => (res1 rfl (show RV _ _ _ (.tmp 6) _ from rfl))) (fun w' hf => ?_)
              first | rfl | exact hbad.elim | (exfalso; subst hk10; omega)
           ·skip
            refine cond_f rfl (decide_eq_false hc102) ?_
            refine skip (thn_n (seq (seq (region (ops_y hH96 rfl rfl (yv_move rfl) ?_)))))
            refine ops_y hH96 rfl rfl (yv_field T.f38_2 rfl) ?_
            refine ops_y hH96 rfl rfl (yv_load T.one2 rfl (fun _ hw => bx_cell (q8.now hw (n := 0) rfl) rfl)) ?_
            refine ops_y hH96 rfl rfl (yv_eql rfl rfl) ?_
            refine ops_y hH96 rfl rfl (yv_move rfl) ?_
            by_cases hc106 : (k : Int) = ((nth l (i : Int)).f)
            ·skip
             refine guard_yes rfl rfl (decide_eq_true hc106) ?_
             refine ops_y hH96 rfl rfl (yv_field T.f38_1 rfl) ?_
             refine guard_yes rfl rfl (decide_eq_true hc106) ?_
             refine ops_y hH96 rfl rfl (yv_load T.one2 rfl (fun _ hw => bx_cell (q8.now hw (n := 0) rfl) rfl)) ?_
             refine guard_yes rfl rfl (decide_eq_true hc106) ?_
             refine ops_y hH96 rfl rfl (yv_move rfl) ?_
             refine guard_yes rfl rfl (decide_eq_true hc106) ?_
             refine ops_y hH96 rfl rfl (yv_leq rfl rfl) ?_
             refine ops_y hH96 rfl rfl (yv_pick_t rfl (decide_eq_true hc106) rfl) ?_
             refine ops_nil (thn_n ?_)
             refine cond_f rfl (decide_eq_false hc102) ?_
             refine skip (thn_n (seq (seq (region (ops_y hH96 rfl rfl (yv_move rfl) (ops_y hH96 rfl rfl (yv_move rfl) ?_))))))
             refine ops_y hH96 rfl rfl (yv_sub rfl rfl (by omega)) ?_
             refine ops_y hH96 rfl rfl (yv_move rfl) ?_
             refine ops_y hH96 rfl rfl (yv_neq rfl rfl) ?_
             refine ops_nil (thn_n ?_)
             by_cases hc107 : ((B.bal l (k : Int) d) - (B.bal (B.without l i) (k : Int) d)) = 0
             ·skip
              refine cond_f rfl (not_decide_n hc107) ?_
              refine skip (thn_n (region (ops_y hH96 rfl rfl (yv_move rfl) (ops_y hH96 rfl rfl (yv_move rfl) ?_))))
              refine ops_y hH96 rfl rfl (yv_add rfl rfl (by omega)) ?_
              refine ops_y hH96 rfl rfl (yv_assign rfl) (ops_nil (blk_n (thn_n (region (ops_y hH96 rfl rfl (yv_move rfl) ?_)))))
              refine ops_y hH96 rfl rfl (yv_add rfl rfl (by omega)) ?_
              refine ops_y hH96 rfl rfl (yv_assign rfl) (ops_nil ?_)
              refine lp_n (k + 1) (Sub.cons rfl (Sub.cons rfl (Sub.cons rfl (Sub.cons rfl (Sub.cons rfl (Sub.cons rfl (Sub.nil _))))))) ?_ ?_
              ·exact ⟨hH96, by omega⟩
              ·first | (dsimp only; omega) | (show _ < _; omega)
             ·skip
              refine cond_t rfl (not_decide_t hc107) ?_
              refine seq ?_
              have hbad : False := by split at hdf <;> (try split at hdf) <;> (try split at hdf) <;> omega
              refine region (ops_y hH96 rfl rfl (yv_assign rfl) (ops_nil (thn_n (ret (thn_r (blk_r (thn_r (lp_r (blk_r ?_)))))))))
              refine thn_r ?_
              refine fin (Heap.unbase hH96 hbw) (fun w' hf => (res1 rfl (show RV _ _ _ (.tmp 6) _ from rfl))) (fun w' hf => ?_)
              first | rfl | exact hbad.elim | (exfalso; subst hk10; omega)
            ·skip
             refine guard_no rfl rfl (decide_eq_false hc106) rfl ?_
             refine guard_no rfl rfl (decide_eq_false hc106) rfl ?_
             refine guard_no rfl rfl (decide_eq_false hc106) rfl ?_
             refine guard_no rfl rfl (decide_eq_false hc106) rfl ?_
             refine ops_y hH96 rfl rfl (yv_pick_f rfl (decide_eq_false hc106) rfl) ?_
             refine ops_nil (thn_n ?_)
             refine cond_f rfl rfl ?_
             refine skip (thn_n (seq (seq (region (ops_y hH96 rfl rfl (yv_move rfl) (ops_y hH96 rfl rfl (yv_move rfl) ?_))))))
             refine ops_y hH96 rfl rfl (yv_sub rfl rfl (by omega)) ?_
             refine ops_y hH96 rfl rfl (yv_move rfl) ?_
             refine ops_y hH96 rfl rfl (yv_neq rfl rfl) ?_
             refine ops_nil (thn_n ?_)
             by_cases hc108 : ((B.bal l (k : Int) d) - (B.bal (B.without l i) (k : Int) d)) = 0
             ·skip
              refine cond_f rfl (not_decide_n hc108) ?_
              refine skip (thn_n (region (ops_y hH96 rfl rfl (yv_move rfl) (ops_y hH96 rfl rfl (yv_move rfl) ?_))))
              refine ops_y hH96 rfl rfl (yv_add rfl rfl (by omega)) ?_
              refine ops_y hH96 rfl rfl (yv_assign rfl) (ops_nil (blk_n (thn_n (region (ops_y hH96 rfl rfl (yv_move rfl) ?_)))))
              refine ops_y hH96 rfl rfl (yv_add rfl rfl (by omega)) ?_
              refine ops_y hH96 rfl rfl (yv_assign rfl) (ops_nil ?_)
              refine lp_n (k + 1) (Sub.cons rfl (Sub.cons rfl (Sub.cons rfl (Sub.cons rfl (Sub.cons rfl (Sub.cons rfl (Sub.nil _))))))) ?_ ?_
              ·exact ⟨hH96, by omega⟩
              ·first | (dsimp only; omega) | (show _ < _; omega)
             ·skip
              refine cond_t rfl (not_decide_t hc108) ?_
              refine seq ?_
              have hbad : False := by split at hdf <;> (try split at hdf) <;> (try split at hdf) <;> omega
              refine region (ops_y hH96 rfl rfl (yv_assign rfl) (ops_nil (thn_n (ret (thn_r (blk_r (thn_r (lp_r (blk_r ?_)))))))))
              refine thn_r ?_
              refine fin (Heap.unbase hH96 hbw) (fun w' hf => (res1 rfl (show RV _ _ _ (.tmp 6) _ from rfl))) (fun w' hf => ?_)
              first | rfl | exact hbad.elim | (exfalso; subst hk10; omega)
          ·skip
           refine guard_no rfl rfl (decide_eq_false hc101) rfl ?_
           refine guard_no rfl rfl (decide_eq_false hc101) rfl ?_
           refine guard_no rfl rfl (decide_eq_false hc101) rfl ?_
           refine guard_no rfl rfl (decide_eq_false hc101) rfl ?_
           refine ops_y hH96 rfl rfl (yv_pick_f rfl (decide_eq_false hc101) rfl) ?_
           refine ops_nil (thn_n ?_)
           refine cond_f rfl rfl ?_
           refine skip (thn_n (seq (seq (region (ops_y hH96 rfl rfl (yv_move rfl) ?_)))))
           refine ops_y hH96 rfl rfl (yv_field T.f38_2 rfl) ?_
           refine ops_y hH96 rfl rfl (yv_load T.one2 rfl (fun _ hw => bx_cell (q8.now hw (n := 0) rfl) rfl)) ?_
           refine ops_y hH96 rfl rfl (yv_eql rfl rfl) ?_
           refine ops_y hH96 rfl rfl (yv_move rfl) ?_
           by_cases hc109 : (k : Int) = ((nth l (i : Int)).f)
           ·skip
            refine guard_yes rfl rfl (decide_eq_true hc109) ?_
            refine ops_y hH96 rfl rfl (yv_field T.f38_1 rfl) ?_
            refine guard_yes rfl rfl (decide_eq_true hc109) ?_
            refine ops_y hH96 rfl rfl (yv_load T.one2 rfl (fun _ hw => bx_cell (q8.now hw (n := 0) rfl) rfl)) ?_
            refine guard_yes rfl rfl (decide_eq_true hc109) ?_
            refine ops_y hH96 rfl rfl (yv_move rfl) ?_
            refine guard_yes rfl rfl (decide_eq_true hc109) ?_
            refine ops_y hH96 rfl rfl (yv_leq rfl rfl) ?_
            refine ops_y hH96 rfl rfl (yv_pick_t rfl (decide_eq_true hc109) rfl) ?_
            refine ops_nil (thn_n ?_)
            by_cases hc110 : ((nth l (i : Int)).d) ≤ d
            ·skip
             refine cond_t rfl (decide_eq_true hc110) ?_
             refine region ?_
             refine ops_y hH96 rfl rfl (yv_field T.f38_4 rfl) ?_
             refine ops_y hH96 rfl rfl (yv_load T.one2 rfl (fun _ hw => bx_cell (q8.now hw (n := 0) rfl) rfl)) ?_
             refine ops_y hH96 rfl rfl (yv_negI rfl (by omega)) ?_
             refine ops_y hH96 rfl rfl (yv_assign rfl) (ops_nil (thn_n (seq (seq (region (ops_y hH96 rfl rfl (yv_move rfl) (ops_y hH96 rfl rfl (yv_move rfl) ?_)))))))
             refine ops_y hH96 rfl rfl (yv_sub rfl rfl (by omega)) ?_
             refine ops_y hH96 rfl rfl (yv_move rfl) ?_
             refine ops_y hH96 rfl rfl (yv_neq rfl rfl) ?_
             refine ops_nil (thn_n ?_)
             by_cases hc111 : ((B.bal l (k : Int) d) - (B.bal (B.without l i) (k : Int) d)) = (-((nth l (i : Int)).a))
             ·skip
              refine cond_f rfl (not_decide_n hc111) ?_
              refine skip (thn_n (region (ops_y hH96 rfl rfl (yv_move rfl) (ops_y hH96 rfl rfl (yv_move rfl) ?_))))
              refine ops_y hH96 rfl rfl (yv_add rfl rfl (by omega)) ?_
              refine ops_y hH96 rfl rfl (yv_assign rfl) (ops_nil (blk_n (thn_n (region (ops_y hH96 rfl rfl (yv_move rfl) ?_)))))
              refine ops_y hH96 rfl rfl (yv_add rfl rfl (by omega)) ?_
              refine ops_y hH96 rfl rfl (yv_assign rfl) (ops_nil ?_)
              refine lp_n (k + 1) (Sub.cons rfl (Sub.cons rfl (Sub.cons rfl (Sub.cons rfl (Sub.cons rfl (Sub.cons rfl (Sub.nil _))))))) ?_ ?_
              ·exact ⟨hH96, by omega⟩
              ·first | (dsimp only; omega) | (show _ < _; omega)
             ·skip
              refine cond_t rfl (not_decide_t hc111) ?_
              refine seq ?_
              have hbad : False := by split at hdf <;> (try split at hdf) <;> (try split at hdf) <;> omega
              refine region (ops_y hH96 rfl rfl (yv_assign rfl) (ops_nil (thn_n (ret (thn_r (blk_r (thn_r (lp_r (blk_r ?_)))))))))
              refine thn_r ?_
              refine fin (Heap.unbase hH96 hbw) (fun w' hf => (res1 rfl (show RV _ _ _ (.tmp 6) _ from rfl))) (fun w' hf => ?_)
              first | rfl | exact hbad.elim | (exfalso; subst hk10; omega)
            ·skip
             refine cond_f rfl (decide_eq_false hc110) ?_
             refine skip (thn_n (seq (seq (region (ops_y hH96 rfl rfl (yv_move rfl) (ops_y hH96 rfl rfl (yv_move rfl) ?_))))))
             refine ops_y hH96 rfl rfl (yv_sub rfl rfl (by omega)) ?_
             refine ops_y hH96 rfl rfl (yv_move rfl) ?_
             refine ops_y hH96 rfl rfl (yv_neq rfl rfl) ?_
             refine ops_nil (thn_n ?_)
             by_cases hc112 : ((B.bal l (k : Int) d) - (B.bal (B.without l i) (k : Int) d)) = 0
             ·skip
              refine cond_f rfl (not_decide_n hc112) ?_
              refine skip (thn_n (region (ops_y hH96 rfl rfl (yv_move rfl) (ops_y hH96 rfl rfl (yv_move rfl) ?_))))
              refine ops_y hH96 rfl rfl (yv_add rfl rfl (by omega)) ?_
              refine ops_y hH96 rfl rfl (yv_assign rfl) (ops_nil (blk_n (thn_n (region (ops_y hH96 rfl rfl (yv_move rfl) ?_)))))
              refine ops_y hH96 rfl rfl (yv_add rfl rfl (by omega)) ?_
              refine ops_y hH96 rfl rfl (yv_assign rfl) (ops_nil ?_)
              refine lp_n (k + 1) (Sub.cons rfl (Sub.cons rfl (Sub.cons rfl (Sub.cons rfl (Sub.cons rfl (Sub.cons rfl (Sub.nil _))))))) ?_ ?_
              ·exact ⟨hH96, by omega⟩
              ·first | (dsimp only; omega) | (show _ < _; omega)
             ·skip
              refine cond_t rfl (not_decide_t hc112) ?_
              refine seq ?_
              have hbad : False := by split at hdf <;> (try split at hdf) <;> (try split at hdf) <;> omega
              refine region (ops_y hH96 rfl rfl (yv_assign rfl) (ops_nil (thn_n (ret (thn_r (blk_r (thn_r (lp_r (blk_r ?_)))))))))
              refine thn_r ?_
              refine fin (Heap.unbase hH96 hbw) (fun w' hf => (res1 rfl (show RV _ _ _ (.tmp 6) _ from rfl))) (fun w' hf => ?_)
              first | rfl | exact hbad.elim | (exfalso; subst hk10; omega)
           ·skip
            refine guard_no rfl rfl (decide_eq_false hc109) rfl ?_
            refine guard_no rfl rfl (decide_eq_false hc109) rfl ?_
            refine guard_no rfl rfl (decide_eq_false hc109) rfl ?_
            refine guard_no rfl rfl (decide_eq_false hc109) rfl ?_
            refine ops_y hH96 rfl rfl (yv_pick_f rfl (decide_eq_false hc109) rfl) ?_
            refine ops_nil (thn_n ?_)
            refine cond_f rfl rfl ?_
            refine skip (thn_n (seq (seq (region (ops_y hH96 rfl rfl (yv_move rfl) (ops_y hH96 rfl rfl (yv_move rfl) ?_))))))
            refine ops_y hH96 rfl rfl (yv_sub rfl rfl (by omega)) ?_
            refine ops_y hH96 rfl rfl (yv_move rfl) ?_
            refine ops_y hH96 rfl rfl (yv_neq rfl rfl) ?_
            refine ops_nil (thn_n ?_)
            by_cases hc113 : ((B.bal l (k : Int) d) - (B.bal (B.without l i) (k : Int) d)) = 0
            ·skip
             refine cond_f rfl (not_decide_n hc113) ?_
             refine skip (thn_n (region (ops_y hH96 rfl rfl (yv_move rfl) (ops_y hH96 rfl rfl (yv_move rfl) ?_))))
             refine ops_y hH96 rfl rfl (yv_add rfl rfl (by omega)) ?_
             refine ops_y hH96 rfl rfl (yv_assign rfl) (ops_nil (blk_n (thn_n (region (ops_y hH96 rfl rfl (yv_move rfl) ?_)))))
             refine ops_y hH96 rfl rfl (yv_add rfl rfl (by omega)) ?_
             refine ops_y hH96 rfl rfl (yv_assign rfl) (ops_nil ?_)
             refine lp_n (k + 1) (Sub.cons rfl (Sub.cons rfl (Sub.cons rfl (Sub.cons rfl (Sub.cons rfl (Sub.cons rfl (Sub.nil _))))))) ?_ ?_
             ·exact ⟨hH96, by omega⟩
             ·first | (dsimp only; omega) | (show _ < _; omega)
            ·skip
             refine cond_t rfl (not_decide_t hc113) ?_
             refine seq ?_
             have hbad : False := by split at hdf <;> (try split at hdf) <;> (try split at hdf) <;> omega
             refine region (ops_y hH96 rfl rfl (yv_assign rfl) (ops_nil (thn_n (ret (thn_r (blk_r (thn_r (lp_r (blk_r ?_)))))))))
             refine thn_r ?_
             refine fin (Heap.unbase hH96 hbw) (fun w' hf => (res1 rfl (show RV _ _ _ (.tmp 6) _ from rfl))) (fun w' hf => ?_)
             first | rfl | exact hbad.elim | (exfalso; subst hk10; omega)
     ·skip
      refine cond_f rfl (decide_eq_false hc92) ?_
      refine exit (thn_x (lp_x (blk_here (thn_n (seq ?_)))))
      have htt := B.tot_ten (B.inR_mem hin0) d
      have hk10 : k = 10 := by omega
      refine region (ops_y hH91 rfl rfl (yv_move rfl) ?_)
      refine ops_y hH91 rfl rfl (yv_eql rfl rfl) ?_
      refine ops_y hH91 rfl rfl (yv_move rfl) ?_
      by_cases hc114 : (B.tot l d k) = 0
      ·skip
       refine guard_yes rfl rfl (decide_eq_true hc114) ?_
       refine op_fnV rfl rfl rfl hH91 (c18 ((hG.below hbw).now hH91 (n := 0) rfl)) (fun w115 hH116 => ?_)
       refine ops_y hH116 rfl rfl (yv_pick_t rfl (decide_eq_true hc114) rfl) ?_
       refine ops_y hH116 rfl rfl (yv_assign rfl) (ops_nil (thn_n (ret ?_)))
       refine fin (Heap.unbase hH116 hbw) (fun w' hf => (res1 rfl (show RV _ _ _ (.tmp 6) _ from rfl))) (fun w' hf => ?_)
       first | rfl | exact hbad.elim | (exfalso; subst hk10; omega)
      ·skip
       refine guard_no rfl rfl (decide_eq_false hc114) rfl ?_
       refine ops_y hH91 rfl rfl (yv_pick_f rfl (decide_eq_false hc114) rfl) ?_
       refine ops_y hH91 rfl rfl (yv_assign rfl) (ops_nil (thn_n (ret ?_)))
       refine fin (Heap.unbase hH91 hbw) (fun w' hf => (res1 rfl (show RV _ _ _ (.tmp 6) _ from rfl))) (fun w' hf => ?_)
       first | rfl | exact hbad.elim | (exfalso; subst hk10; omega)
 ·skip
  refine guard_no rfl rfl (not_decide_t hc6) rfl ?_
  refine guard_no rfl rfl (not_decide_t hc6) rfl ?_
  refine guard_no rfl rfl (not_decide_t hc6) rfl ?_
  refine guard_no rfl rfl (not_decide_t hc6) rfl ?_
  refine ops_y hH5 rfl rfl (yv_pick_t rfl (not_decide_t hc6) rfl) ?_
  refine ops_nil (thn_n ?_)
  refine cond_t rfl rfl ?_
  refine seq (region ?_)
  refine op_fnV rfl rfl rfl hH5 (c18 (hG.now hH5 (n := 1) rfl)) (fun w117 hH118 => ?_)
  refine ops_y hH118 rfl rfl (yv_assign rfl) (ops_nil (thn_n (ret (thn_r ?_))))
  have hH119 := (hH118.sub (List.Sublist.cons _ (List.Sublist.refl _)))
  refine fin hH119 (fun w' hf => (res1 rfl (show RV _ _ _ (.tmp 6) _ from rfl))) (fun w' hf => ?_)
  first | rfl | exact hbad.elim | (exfalso; subst hk10; omega)
end Go.Fip
