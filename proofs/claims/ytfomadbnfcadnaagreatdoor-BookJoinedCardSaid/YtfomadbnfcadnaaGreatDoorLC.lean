/- Walks of the law, and what it alone needs, by program (wip/tools). -/
import Derived.Test.YtfomadbnfcadnaaGreatDoorMJ
set_option linter.unusedVariables false
set_option linter.unusedSimpArgs false
set_option linter.unusedSectionVars false
set_option linter.unnecessarySimpa false
namespace Go.Fip
open Go.ChangeShapes Go.WideShapes Go.ChangeAt Go.RowKit
section
variable {H : Type} {enc : TypeId × Value → H} {P : Program} {w : World}
theorem trodAll_below (hl : laidOutB P = true) {W W' : World} (hb : Below W.heap.size W W') : ∀ (ts : List TypeId) (vs : List Value) (ds : List (DataW H)) (ps : List MemPlace), (ts.all fun t => P.readableRec t && decide (t < P.types.size)) = true →
    DataW.TrodAll enc P W 0 (fun _ => true) true ts vs ds ps → (∀ x ∈ ps, x.block < W.heap.size) → DataW.TrodAll enc P W' 0 (fun b => decide (b < W.heap.size)) true ts vs ds ps
  | [], vs, ds, ps, _, h, _ => by
    obtain ⟨rfl, rfl, rfl⟩ := trodAll_nil h
    rfl
  | t :: ts, vs, ds, ps, hr, h, hlt => by
    obtain ⟨v, vs, d, ds, p, q, rfl, rfl, rfl, h1, h2⟩ := trodAll_cons h
    simp only [List.all_cons, Bool.and_eq_true, decide_eq_true_eq] at hr
    exact ⟨p, q, Below.trod hl hr.1.1 hr.1.2 h1 hb (fun x hx => hlt x (List.mem_append_left _ hx)), trodAll_below hl hb ts vs ds q (by simpa using hr.2) h2 (fun x hx => hlt x (List.mem_append_right _ hx)), rfl⟩
theorem law_post {f : Func} {s : ChangeSpec} {apart fresh : Bool} {W W' : World} {args : Array Value} {ds : List (DataW H)} {before p : List MemPlace} {tb : TypeId} (hl : laidOutB P = true) (hb : Below W.heap.size W W')
    (hr : (f.params.toList.all fun t => P.readableRec t && decide (t < P.types.size)) = true) (hv : s.vars = []) (hW : DataW.Whole enc P f.params.toList s.vars apart W args.toList ds [] before)
    (hA : DataW.TrodAll enc P W 0 (fun _ => true) true f.params.toList args.toList ds p) (hp : before = p) (hrt : f.resultTypes = #[tb]) (htb : P.underlying tb = some .bool) (hs : s.fn H (ds ++ []) = { results := [.lit (.bool true)], args := ds }) :
    s.post enc P f apart fresh false false W args (.bool true) W' := by
  subst hp
  refine ⟨ds, [], before, [], before, [], hW, ?_, ?_, ?_, Below.frame hb _, fun h => by cases h⟩
  · rw [hs, hrt]; exact trodAll_mk1 (shut_bool htb _)
  · rw [hs]; exact trodAll_below hl hb _ _ _ _ hr hA (fun x hx => by simpa using hW.lt x hx)
  · rw [hs, hv]; rfl
end
end Go.Fip
namespace Go.Fip.B
open Go.Fip
def inj (l : List (List UInt8)) : Prop := ∀ x ∈ l, ∀ y ∈ l, sm x = sm y → x = y
theorem inj.sub {l m : List (List UInt8)} (h : inj m) (hs : ∀ x ∈ l, x ∈ m) : inj l := fun x hx y hy e => h x (hs x hx) y (hs y hy) e
end Go.Fip.B
namespace Go.Fip.B
open Go.Fip
theorem ord_srt' {l : List En} (h : Ord l) : l.Pairwise bef := by
  rw [List.pairwise_iff_getElem]
  intro i j hi hj hij
  have := ord_all h j i hij hj
  rwa [nth_nat hi, nth_nat hj] at this
theorem dup_pw' {l : List En} (h : NoDup l) : l.Pairwise fun x y => ¬ x.n = y.n := by
  rw [List.pairwise_iff_getElem]
  intro i j hi hj hij
  have := h j hj i hij
  rwa [nth_nat hi, nth_nat hj] at this
theorem ck_sub {l m : List En} (h : ck l = 0) (hs : m.Sublist l) : ck m = 0 := by
  obtain ⟨h24, hin, hns, hnd, hord⟩ := ck_iff.1 h
  have hmem : ∀ i : Nat, i < m.length → ∃ j : Nat, j < l.length ∧ nth m (i : Int) = nth l (j : Int) := fun i hi => by
    have h1 : m[i] ∈ l := hs.subset (List.getElem_mem hi)
    obtain ⟨j, hj, e⟩ := List.getElem_of_mem h1
    exact ⟨j, hj, by rw [nth_nat hi, nth_nat hj, e]⟩
  have hp : m.Pairwise bef := (ord_srt' hord).sublist hs
  have hd : m.Pairwise fun x y => ¬ x.n = y.n := (dup_pw' hnd).sublist hs
  refine ck_iff.2 ⟨Nat.le_trans hs.length_le h24, fun i hi => ?_, fun i hi => ?_, fun i hi k hk => ?_, fun i hi h1 => ?_⟩
  · obtain ⟨j, hj, e⟩ := hmem i hi; rw [e]; exact hin j hj
  · obtain ⟨j, hj, e⟩ := hmem i hi; rw [e]; exact hns j hj
  · have := List.pairwise_iff_getElem.1 hd k i (by omega) hi hk
    rwa [nth_nat (by omega), nth_nat hi]
  · have := List.pairwise_iff_getElem.1 hp (i - 1) i (by omega) hi (by omega)
    rw [show (i : Int) - 1 = ((i - 1 : Nat) : Int) by omega, nth_nat (by omega), nth_nat hi]
    exact this
theorem bal_app {l m : List En} {a d : Int} : bal (l ++ m) a d = bal l a d + bal m a d := by unfold bal; simp
theorem bal_bd : ∀ {l : List En} (_ : ∀ e ∈ l, isEn e) (a d : Int), -1000000 * (l.length : Int) ≤ bal l a d ∧ bal l a d ≤ 1000000 * (l.length : Int)
  | [], _, a, d => by simp [bal]
  | e :: l, h, a, d => by
    have ih := bal_bd (l := l) (fun x hx => h x (List.mem_cons_of_mem _ hx)) a d
    have he := eff_bd (a := a) (d := d) (h e (List.mem_cons_self ..))
    have h1 : bal (e :: l) a d = eff a d e + bal l a d := by unfold bal; simp
    rw [h1]
    simp only [List.length_cons]
    omega
theorem inR_mem {l : List En} (h : InR l) : ∀ e ∈ l, isEn e := fun e he => by
  obtain ⟨i, hi, rfl⟩ := List.getElem_of_mem he
  have := h i hi
  rwa [nth_nat hi] at this
theorem bal24 {l : List En} (h : ck l = 0) (a d : Int) : -24000000 ≤ bal l a d ∧ bal l a d ≤ 24000000 := by
  obtain ⟨h24, hin, _⟩ := ck_iff.1 h
  have := bal_bd (inR_mem hin) a d
  omega
end Go.Fip.B
namespace Go.Fip.B
open Go.Fip
def un (l a b : List En) : List En := l.filter fun e => decide (e ∈ a ∨ e ∈ b)
theorem un_sub {l a b : List En} : (un l a b).Sublist l := List.filter_sublist
theorem un_comm {l a b : List En} : un l a b = un l b a := List.filter_congr fun e _ => decide_eq_decide.2 Or.comm
theorem un_all {l a b : List En} (h : ∀ e ∈ l, e ∈ a ∨ e ∈ b) : un l a b = l := List.filter_eq_self.2 fun e he => dT (h e he)
theorem no_eq {l : List En} (h : NoDup l) {x y : En} (hx : x ∈ l) (hy : y ∈ l) (hn : x.n = y.n) : x = y := by
  obtain ⟨i, hi, rfl⟩ := List.getElem_of_mem hx
  obtain ⟨j, hj, rfl⟩ := List.getElem_of_mem hy
  rcases Nat.lt_trichotomy i j with h1 | h1 | h1
  · exact absurd (by rw [nth_nat hi, nth_nat hj]; exact hn) (h j hj i h1)
  · subst h1; rfl
  · exact absurd (by rw [nth_nat hi, nth_nat hj]; exact hn.symm) (h i hi j h1)
theorem srt_nodup {l : List En} (h : l.Pairwise bef) : l.Nodup := h.imp fun hb e => by subst e; exact bef_irrefl hb
theorem srt_ext {l m : List En} (hl : l.Pairwise bef) (hm : m.Pairwise bef) (h : ∀ e, e ∈ l ↔ e ∈ m) : l = m := by
  have hp : l.Perm m := (List.perm_ext_iff_of_nodup (srt_nodup hl) (srt_nodup hm)).2 h
  exact hp.eq_of_pairwise (fun x y _ _ h1 h2 => absurd h2 (bef_asymm h1)) hl hm
theorem join_sub {l a b : List En} (h : ck l = 0) (ha : a.Sublist l) (hb : b.Sublist l) : joinR a b = (un l a b, 0) := by
  have ha0 := ck_sub h ha
  have hb0 := ck_sub h hb
  obtain ⟨h24, _, _, hd, ho⟩ := ck_iff.1 h
  obtain ⟨_, _, _, _, hoa⟩ := ck_iff.1 ha0
  obtain ⟨_, _, _, hdb, _⟩ := ck_iff.1 hb0
  have hc : clash a b = false := clash_none fun i hi j hj hn => no_eq hd (ha.subset (nth_mem hj)) (hb.subset (nth_mem hi)) hn
  have hm : ∀ e, e ∈ joinL a b ↔ e ∈ un l a b := fun e => by
    rw [joinL_perm.mem_iff, List.mem_append]
    unfold un
    rw [List.mem_filter]
    constructor
    · rintro (h1 | h1)
      · exact ⟨ha.subset h1, dT (.inl h1)⟩
      · have := (news_fresh h1).1; exact ⟨hb.subset this, dT (.inr this)⟩
    · rintro ⟨_, h1⟩
      rcases of_decide_eq_true h1 with h2 | h2
      · exact .inl h2
      · by_cases h3 : e ∈ a
        · exact .inl h3
        · refine .inr ?_
          unfold news
          rw [List.mem_filter]
          refine ⟨h2, ?_⟩
          cases hh : has (isN e.n) a with
          | false => rfl
          | true =>
            obtain ⟨y, hy, hn⟩ := has_isN.1 hh
            exact absurd (no_eq hd (ha.subset hy) (hb.subset h2) hn ▸ hy) h3
  have he : joinL a b = un l a b := srt_ext (joinL_srt hoa hdb) ((ord_srt ho).filter _) hm
  have hl : ¬ 24 < a.length + (news a b).length := by
    rw [← joinL_len, he]
    have := (un_sub (l := l) (a := a) (b := b)).length_le
    omega
  rw [joinR_ok ha0 hb0 hc hl, he]
def sel (p : Nat → Bool) (l : List En) : Nat → List En
  | 0 => []
  | k + 1 => sel p l k ++ (if p k = true then [nth l (k : Int)] else [])
theorem sel_t {p : Nat → Bool} {l : List En} {k : Nat} (h : p k = true) : sel p l k ++ [nth l (k : Int)] = sel p l (k + 1) := by
  show _ = sel p l k ++ (if p k = true then [nth l (k : Int)] else [])
  rw [if_pos h]
theorem sel_f {p : Nat → Bool} {l : List En} {k : Nat} (h : ¬ p k = true) : sel p l k = sel p l (k + 1) := by
  show _ = sel p l k ++ (if p k = true then [nth l (k : Int)] else [])
  rw [if_neg h, List.append_nil]
theorem sel_take {p : Nat → Bool} {l : List En} : ∀ {k : Nat}, k ≤ l.length → (sel p l k).Sublist (l.take k)
  | 0, _ => by simp [sel]
  | k + 1, h => by
    rw [List.take_succ_eq_append_getElem (show k < l.length by omega), ← nth_nat (by omega)]
    refine List.Sublist.append (sel_take (by omega)) ?_
    split
    · exact List.Sublist.refl _
    · exact List.nil_sublist _
theorem sel_sub {p : Nat → Bool} {l : List En} {k : Nat} (h : k ≤ l.length) : (sel p l k).Sublist l := (sel_take h).trans (List.take_sublist k l)
theorem sel_len {p : Nat → Bool} {l : List En} {k : Nat} (h : k ≤ l.length) : (sel p l k).length ≤ k := by
  have := (sel_take (p := p) h).length_le
  rw [List.length_take] at this
  omega
theorem sel_mem {p : Nat → Bool} {l : List En} {i : Nat} (hp : p i = true) : ∀ {k : Nat}, i < k → nth l (i : Int) ∈ sel p l k
  | 0, h => by omega
  | k + 1, h => by
    show _ ∈ sel p l k ++ _
    rw [List.mem_append]
    by_cases h1 : i < k
    · exact .inl (sel_mem hp h1)
    · have : i = k := by omega
      subst this
      refine .inr ?_
      rw [if_pos hp]; simp
theorem sel_all {p q : Nat → Bool} {l : List En} (h : ∀ i, p i = true ∨ q i = true) : ∀ e ∈ l, e ∈ sel p l l.length ∨ e ∈ sel q l l.length := fun e he => by
  obtain ⟨i, hi, rfl⟩ := List.getElem_of_mem he
  rw [← nth_nat hi]
  rcases h i with h1 | h1
  · exact .inl (sel_mem h1 hi)
  · exact .inr (sel_mem h1 hi)
theorem bal_nil {a d : Int} : bal [] a d = 0 := rfl
theorem bal_sel {p q : Nat → Bool} {l : List En} {a d : Int} (h : ∀ i, q i = !p i) : ∀ {k : Nat}, k ≤ l.length → bal (l.take k) a d = bal (sel p l k) a d + bal (sel q l k) a d
  | 0, _ => by rw [List.take_zero]; rfl
  | k + 1, hk => by
    have ih := bal_sel (l := l) (a := a) (d := d) h (k := k) (by omega)
    rw [List.take_succ_eq_append_getElem (show k < l.length by omega), ← nth_nat (l := l) (i := k) (by omega), bal_app, ih]
    show _ = bal (sel p l k ++ (if p k = true then _ else _)) a d + bal (sel q l k ++ (if q k = true then _ else _)) a d
    rw [bal_app, bal_app, h k]
    cases p k
    · rw [if_neg (by decide), if_pos (by decide), bal_nil]; omega
    · rw [if_pos rfl, if_neg (by decide), bal_nil]; omega
theorem bal_parts {p q : Nat → Bool} {l : List En} {a d : Int} (h : ∀ i, q i = !p i) : bal l a d = bal (sel p l l.length) a d + bal (sel q l l.length) a d := by
  have := bal_sel (a := a) (d := d) h (Nat.le_refl l.length)
  rwa [List.take_length] at this
end Go.Fip.B
namespace Go.Fip
open Go.Proofs Go.RowKit
section
variable {P : Program} {N : Nat} {ds : List Deferred} {env : Env} {S : World → Prop} {x y : Operand}
theorem yv_shr32u {T T' : TypeId} {n m : Int} (hx : ev env x = some (.int .u32 m)) (hy : ev env y = some (.int .i64 n)) (h0 : 0 ≤ n ∧ n ≤ 32) : Yv P N ds env (.binOp .shr T x y T') (.int .u32 (m / 2 ^ n.toNat)) S := fun act hact w _ _ _ _ _ _ => by
 have e := shift_shr .u32 .i64 m n h0.1 (show n ≤ IntKind.u32.bits by show n ≤ 32; omega)
 simp only [execOp, hact.ev hx, hact.ev hy, eqGuard, binOp, Sem.run_bind]
 rw [e]
 rfl
def and32 (m : Int) : Int := IntKind.u32.wrap ((BitVec.ofInt 32 m &&& BitVec.ofInt 32 1).toNat : Int)
theorem yv_and32u {T T' : TypeId} {m : Int} (hx : ev env x = some (.int .u32 m)) (hy : ev env y = some (.int .u32 1)) : Yv P N ds env (.binOp .and T x y T') (.int .u32 (and32 m)) S := fun act hact w _ _ _ _ _ _ => by
 simp only [execOp, hact.ev hx, hact.ev hy, eqGuard, binOp, Op.intBits, Sem.run_bind]
 simp [Result.andThen]
 rfl
end
def bit32 (m : Int) (i : Nat) : Bool := decide (and32 (m / 2 ^ i) = 1)
def nbit32 (m : Int) (i : Nat) : Bool := !bit32 m i
theorem c13 {v : Value} {l : List En} {w : World} (h0 : Rd encE 5 v l w) (hG : Gl w) {o1 o2 b d : Int} (hb : 0 ≤ b ∧ b ≤ 255)  :
  Fn Tryz.prog 13 [(.agg #[v]), (.int .u32 o1), (.int .u32 o2), (.int .u8 b), (.int .i64 d)].toArray w (fun u _ => u = .bool true) := by
 refine fn_of' (args := [(.agg #[v]), (.int .u32 o1), (.int .u32 o2), (.int .u8 b), (.int .i64 d)]) Tryz.func13 rfl (ent Tryz.func13 (by kernel_rfl) rfl) rfl rfl (fun hH => ?_)
 refine seq (region ?_)
 refine op_box (us := [v]) rfl rfl rfl hH (fun b1 w2 hH3 => ?_)
 refine oA hH3 rfl rfl (ops_nil (thn_n (seq (seq (region ?_)))))
 refine ops_y hH3 rfl rfl (yv_loadA (cs := [v]) T.agg24 rfl rfl (fun _ hw => Heap.cellsw hw (n := 0) rfl (k := 0) rfl)) ?_
 refine op_fnV rfl rfl rfl hH3 (c43 (h0.now hH3 (n := 1) rfl)) (fun w4 hH5 => ?_)
 refine ops_y hH5 rfl rfl (yv_not rfl) ?_
 refine ops_nil (thn_n ?_)
 by_cases hc6 : B.ck l = 0
 ·skip
  refine cond_f rfl (not_decide_n hc6) ?_
  refine skip (thn_n (seq ?_))
  have hc0 : B.ck l = 0 := by first | assumption | exact Decidable.not_not.1 ‹_›
  have hbk := B.ck_iff.1 hc0
  have hin0 := hbk.2.1
  have hl24 := hbk.1
  have hro := B.ro2 hc0
  refine region ?_
  refine op_alloc (z := (.agg #[(.slice none 0 0)])) (us := [(.slice none 0 0)]) (fun _ => by kernel_rfl) rfl rfl hH5 (fun b7 w8 hH9 => ?_)
  refine op_alloc (z := (.agg #[(.slice none 0 0)])) (us := [(.slice none 0 0)]) (fun _ => by kernel_rfl) rfl rfl hH9 (fun b10 w11 hH12 => ?_)
  refine op_alloc (z := (.agg #[(.slice none 0 0)])) (us := [(.slice none 0 0)]) (fun _ => by kernel_rfl) rfl rfl hH12 (fun b13 w14 hH15 => ?_)
  refine ops_nil (thn_n (seq (seq (region (oA hH15 rfl rfl (ops_nil (thn_n (block ?_))))))))
  have hH16 := ow_nil (enc := encE) 38 5 hH15
  have hH17 := ow_nil (enc := encE) 38 5 hH16
  have hH18 := ow_nil (enc := encE) 38 5 hH17
  refine loop (S := Nat × Value × Nat × Nat × Value × Nat × Nat × Value × Nat × Nat) (fun (k, v_b11, lo_b11, hi_b11, v_b12, lo_b12, hi_b12, v_b13, lo_b13, hi_b13) => [(14, (.int .i64 (k : Int))), (1, (.int .u32 o1)), (2, (.int .u32 o2)), (3, (.int .u8 b)), (4, (.int .i64 d)), (5, (.pointer (some ⟨b1, 0, none⟩))), (10, (.bool false)), (11, (.pointer (some ⟨b7, 0, none⟩))), (12, (.pointer (some ⟨b10, 0, none⟩))), (13, (.pointer (some ⟨b13, 0, none⟩)))]) (fun (k, v_b11, lo_b11, hi_b11, v_b12, lo_b12, hi_b12, v_b13, lo_b13, hi_b13) w1 => Heap [ow lo_b13 hi_b13 38 5 encE v_b13 (B.sel (nbit32 o1) l k), ow lo_b12 hi_b12 38 5 encE v_b12 (B.sel (bit32 o2) l k), ow lo_b11 hi_b11 38 5 encE v_b11 (B.sel (bit32 o1) l k), bx b13 24 [v_b13], bx b10 24 [v_b12], bx b7 24 [v_b11], bx b1 24 [v], base w] w1 ∧ k ≤ l.length) (fun (k, v_b11, lo_b11, hi_b11, v_b12, lo_b12, hi_b12, v_b13, lo_b13, hi_b13) => l.length - k) (0, (.slice none 0 0), w14.heap.size, w14.heap.size, (.slice none 0 0), w14.heap.size, w14.heap.size, (.slice none 0 0), w14.heap.size, w14.heap.size) (uC rfl (uC rfl (uC rfl (uC rfl (uC rfl (uC rfl (uC rfl (uC rfl (uC rfl (uC rfl (Sub.nil _))))))))))) ?_ ?_
  ·exact ⟨(Heap.recast (n := 0) (Heap.recast (n := 1) (Heap.recast (n := 2) hH18 rfl (rfl)) rfl (rfl)) rfl (rfl)), by omega⟩
  ·rintro ⟨k, v_b11, lo_b11, hi_b11, v_b12, lo_b12, hi_b12, v_b13, lo_b13, hi_b13⟩ w19 ⟨hH20, hk⟩
   show Holds _ _ _ _ _ [(14, (.int .i64 (k : Int))), (1, (.int .u32 o1)), (2, (.int .u32 o2)), (3, (.int .u8 b)), (4, (.int .i64 d)), (5, (.pointer (some ⟨b1, 0, none⟩))), (10, (.bool false)), (11, (.pointer (some ⟨b7, 0, none⟩))), (12, (.pointer (some ⟨b10, 0, none⟩))), (13, (.pointer (some ⟨b13, 0, none⟩)))] _ _
   have he1 := B.sel_len (p := bit32 o1) hk
   have he2 := B.sel_len (p := bit32 o2) hk
   have he3 := B.sel_len (p := nbit32 o1) hk
   refine seq (seq (region (oM hH20 rfl rfl ?_)))
   refine ops_y hH20 rfl rfl (yv_field T.f24_0 rfl) ?_
   refine ops_y hH20 rfl rfl (yv_load T.one22 rfl (fun _ hw => Heap.cellw hw (n := 6) rfl rfl)) ?_
   refine ops_y hH20 rfl rfl (yv_len T.sl22 rfl (h0.now hH20 (n := 7) rfl).is) ?_
   refine ops_y hH20 rfl rfl (yv_lss rfl rfl) ?_
   refine ops_nil (thn_n ?_)
   by_cases hc21 : (k : Int) < (l.length : Int)
   ·skip
    refine cond_t rfl (dT hc21) ?_
    refine skip (thn_n (seq (block (seq (seq (region (oM hH20 rfl rfl (oM hH20 rfl rfl ?_))))))))
    refine ops_y hH20 rfl rfl (yv_shr32u rfl rfl (by omega)) ?_
    refine ops_y hH20 rfl rfl (yv_and32u rfl rfl) ?_
    refine ops_y hH20 rfl rfl (yv_eql rfl rfl) ?_
    refine ops_nil (thn_n ?_)
    by_cases hc22 : (and32 (o1 / 2 ^ ((k : Int)).toNat)) = 1
    ·skip
     have hp1 : bit32 o1 k = true := dT ‹_›
     have hq1 : ¬ nbit32 o1 k = true := by unfold nbit32; rw [hp1]; decide
     refine cond_t rfl (dT hc22) ?_
     refine region_draw (fun w' => True) T.mixed (fun w23 hr24 => ?_)
     have hH25 := hH20.redrawn hr24
     refine any_takes [0, 2, 4] (by kernel_rfl) trivial _ _ _ (by kernel_rfl) ?_
     refine qs_y rfl rfl (yv_field T.f24_0 rfl) ?_
     refine qs_y rfl rfl (yv_field T.f24_0 rfl) ?_
     refine qM rfl rfl rfl (qs_nil ?_)
     refine any_all [1, 3] (by kernel_rfl) rfl ?_
     refine ⟨⟨_, rfl, ?_⟩, ⟨_, rfl, ?_⟩, trivial⟩
     ·skip
      refine ops_y hH25 rfl rfl (yv_load T.one22 rfl (fun _ hw => Heap.cellw hw (n := 5) rfl rfl)) ?_
      refine ops_nil ?_
      refine ⟨trivial, ?_⟩
      refine any_all [3] (by kernel_rfl) rfl ?_
      refine ⟨⟨_, rfl, ?_⟩, trivial⟩
      ·skip
       refine ops_y hH25 rfl rfl (yv_load T.one22 rfl (fun _ hw => Heap.cellw hw (n := 6) rfl rfl)) ?_
       refine ops_nil ?_
       refine ⟨trivial, ?_⟩
       refine any_takes [5] (by kernel_rfl) trivial _ _ _ (by kernel_rfl) ?_
       refine qs_y rfl rfl (yv_index T.sl22 rfl rfl (h0.now hH25 (n := 7) rfl).is (by omega)) ?_
       refine qs_nil ?_
       refine any_all [6] (by kernel_rfl) rfl ?_
       refine ⟨⟨_, rfl, ?_⟩, trivial⟩
       ·skip
        refine ops_y hH25 rfl rfl (yv_loadA (cs := [(.int .i64 ((nth l (k : Int)).n)), (.int .i64 ((nth l (k : Int)).d)), (.int .i64 ((nth l (k : Int)).f)), (.int .i64 ((nth l (k : Int)).t)), (.int .i64 ((nth l (k : Int)).a))]) T.agg38 rfl rfl (fun _ hw => Rd.atA (h0.now hw (n := 7) rfl) (i := (k : Int)) (by omega))) ?_
        refine ops_nil ?_
        refine ⟨trivial, ?_⟩
        refine any_all [7] (by kernel_rfl) rfl ?_
        refine ⟨⟨_, rfl, ?_⟩, trivial⟩
        ·skip
         refine op_lit (us := [(0, (.agg #[(.int .i64 ((nth l (k : Int)).n)), (.int .i64 ((nth l (k : Int)).d)), (.int .i64 ((nth l (k : Int)).f)), (.int .i64 ((nth l (k : Int)).t)), (.int .i64 ((nth l (k : Int)).a))]))]) T.el22_encE [(nth l (k : Int))] rfl (by decide) rfl (fun a ha => by simp [ha.ev (show ev _ (.tmp 53) = some _ from rfl)]) (fun w => by kernel_rfl) hH25 (fun u26 lo28 hi29 w27 hH30 => ?_)
         refine ops_nil ?_
         refine ⟨trivial, ?_⟩
         refine any_all [8] (by kernel_rfl) rfl ?_
         refine ⟨⟨_, rfl, ?_⟩, trivial⟩
         ·skip
          refine op_append (n := 3) T.el22_encE rfl rfl rfl hH30 rfl (Heap.rdw T.el22_encE hH30 (n := 0) rfl) (by first | omega | (simp only [List.length_append, List.length_cons, List.length_nil]; omega)) (fun u31 lo33 hi34 w32 hH35 => ?_)
          refine ops_nil ?_
          refine ⟨trivial, ?_⟩
          refine any_takes [9] (by kernel_rfl) trivial _ _ _ (by kernel_rfl) ?_
          refine qs_y rfl rfl (yv_field T.f24_0 rfl) ?_
          refine qs_nil ?_
          refine any_all [10] (by kernel_rfl) rfl ?_
          refine ⟨⟨_, rfl, ?_⟩, trivial⟩
          ·skip
           refine op_store (n := 6) (j := 0) (us := [u31]) rfl rfl hH35 rfl T.sz22 (SliceIs.cells (Heap.rdw T.el22_encE hH35 (n := 3) rfl).is) rfl rfl (SliceIs.one (Heap.rdw T.el22_encE hH35 (n := 3) rfl).is) (fun w36 hH37 => ?_)
           refine ops_nil ?_
           refine ⟨trivial, ?_⟩
           refine any_done (by kernel_rfl) ?_
           refine thn_n (seq (region (oM hH37 rfl rfl (oM hH37 rfl rfl ?_))))
           refine ops_y hH37 rfl rfl (yv_shr32u rfl rfl (by omega)) ?_
           refine ops_y hH37 rfl rfl (yv_and32u rfl rfl) ?_
           refine ops_y hH37 rfl rfl (yv_eql rfl rfl) ?_
           refine ops_nil (thn_n ?_)
           by_cases hc38 : (and32 (o2 / 2 ^ ((k : Int)).toNat)) = 1
           ·skip
            have hp2 : bit32 o2 k = true := dT ‹_›
            refine cond_t rfl (dT hc38) ?_
            refine region_draw (fun w' => True) T.mixed (fun w39 hr40 => ?_)
            have hH41 := hH37.redrawn hr40
            refine any_takes [0, 2, 4] (by kernel_rfl) trivial _ _ _ (by kernel_rfl) ?_
            refine qs_y rfl rfl (yv_field T.f24_0 rfl) ?_
            refine qs_y rfl rfl (yv_field T.f24_0 rfl) ?_
            refine qM rfl rfl rfl (qs_nil ?_)
            refine any_all [1, 3] (by kernel_rfl) rfl ?_
            refine ⟨⟨_, rfl, ?_⟩, ⟨_, rfl, ?_⟩, trivial⟩
            ·skip
             refine ops_y hH41 rfl rfl (yv_load T.one22 rfl (fun _ hw => Heap.cellw hw (n := 5) rfl rfl)) ?_
             refine ops_nil ?_
             refine ⟨trivial, ?_⟩
             refine any_all [3] (by kernel_rfl) rfl ?_
             refine ⟨⟨_, rfl, ?_⟩, trivial⟩
             ·skip
              refine ops_y hH41 rfl rfl (yv_load T.one22 rfl (fun _ hw => Heap.cellw hw (n := 7) rfl rfl)) ?_
              refine ops_nil ?_
              refine ⟨trivial, ?_⟩
              refine any_takes [5] (by kernel_rfl) trivial _ _ _ (by kernel_rfl) ?_
              refine qs_y rfl rfl (yv_index T.sl22 rfl rfl (h0.now hH41 (n := 8) rfl).is (by omega)) ?_
              refine qs_nil ?_
              refine any_all [6] (by kernel_rfl) rfl ?_
              refine ⟨⟨_, rfl, ?_⟩, trivial⟩
              ·skip
               refine ops_y hH41 rfl rfl (yv_loadA (cs := [(.int .i64 ((nth l (k : Int)).n)), (.int .i64 ((nth l (k : Int)).d)), (.int .i64 ((nth l (k : Int)).f)), (.int .i64 ((nth l (k : Int)).t)), (.int .i64 ((nth l (k : Int)).a))]) T.agg38 rfl rfl (fun _ hw => Rd.atA (h0.now hw (n := 8) rfl) (i := (k : Int)) (by omega))) ?_
               refine ops_nil ?_
               refine ⟨trivial, ?_⟩
               refine any_all [7] (by kernel_rfl) rfl ?_
               refine ⟨⟨_, rfl, ?_⟩, trivial⟩
               ·skip
                refine op_lit (us := [(0, (.agg #[(.int .i64 ((nth l (k : Int)).n)), (.int .i64 ((nth l (k : Int)).d)), (.int .i64 ((nth l (k : Int)).f)), (.int .i64 ((nth l (k : Int)).t)), (.int .i64 ((nth l (k : Int)).a))]))]) T.el22_encE [(nth l (k : Int))] rfl (by decide) rfl (fun a ha => by simp [ha.ev (show ev _ (.tmp 78) = some _ from rfl)]) (fun w => by kernel_rfl) hH41 (fun u42 lo44 hi45 w43 hH46 => ?_)
                refine ops_nil ?_
                refine ⟨trivial, ?_⟩
                refine any_all [8] (by kernel_rfl) rfl ?_
                refine ⟨⟨_, rfl, ?_⟩, trivial⟩
                ·skip
                 refine op_append (n := 3) T.el22_encE rfl rfl rfl hH46 rfl (Heap.rdw T.el22_encE hH46 (n := 0) rfl) (by first | omega | (simp only [List.length_append, List.length_cons, List.length_nil]; omega)) (fun u47 lo49 hi50 w48 hH51 => ?_)
                 refine ops_nil ?_
                 refine ⟨trivial, ?_⟩
                 refine any_takes [9] (by kernel_rfl) trivial _ _ _ (by kernel_rfl) ?_
                 refine qs_y rfl rfl (yv_field T.f24_0 rfl) ?_
                 refine qs_nil ?_
                 refine any_all [10] (by kernel_rfl) rfl ?_
                 refine ⟨⟨_, rfl, ?_⟩, trivial⟩
                 ·skip
                  refine op_store (n := 6) (j := 0) (us := [u47]) rfl rfl hH51 rfl T.sz22 (SliceIs.cells (Heap.rdw T.el22_encE hH51 (n := 3) rfl).is) rfl rfl (SliceIs.one (Heap.rdw T.el22_encE hH51 (n := 3) rfl).is) (fun w52 hH53 => ?_)
                  refine ops_nil ?_
                  refine ⟨trivial, ?_⟩
                  refine any_done (by kernel_rfl) ?_
                  refine blk_n (thn_n (region (oM hH53 rfl rfl ?_)))
                  refine ops_y hH53 rfl rfl (yv_add rfl rfl (by omega)) ?_
                  refine oA hH53 rfl rfl (ops_nil ?_)
                  have hH54 := (hH53.sub (sC (sC sR)))
                  refine lp_n (k + 1, u31, lo33, hi34, u47, lo49, hi50, v_b13, lo_b13, hi_b13) (uC rfl (uC rfl (uC rfl (uC rfl (uC rfl (uC rfl (uC rfl (uC rfl (uC rfl (uC rfl (Sub.nil _))))))))))) ?_ ?_
                  ·exact ⟨(Heap.recast (n := 0) (Heap.recast (n := 1) (Heap.recast (n := 2) hH54 rfl ((by first | exact B.sel_t hp1 | exact B.sel_f hp1))) rfl ((by first | exact B.sel_t hp2 | exact B.sel_f hp2))) rfl ((by first | exact B.sel_t hq1 | exact B.sel_f hq1))), by omega⟩
                  ·first | (dsimp only; omega) | (show _ < _; omega)
            ·skip
             refine ops_y hH41 rfl rfl (yv_load T.one22 rfl (fun _ hw => Heap.cellw hw (n := 7) rfl rfl)) ?_
             refine ops_nil ?_
             refine ⟨trivial, ?_⟩
             refine any_takes [5] (by kernel_rfl) trivial _ _ _ (by kernel_rfl) ?_
             refine qs_y rfl rfl (yv_index T.sl22 rfl rfl (h0.now hH41 (n := 8) rfl).is (by omega)) ?_
             refine qs_nil ?_
             refine any_all [1, 6] (by kernel_rfl) rfl ?_
             refine ⟨⟨_, rfl, ?_⟩, ⟨_, rfl, ?_⟩, trivial⟩
             ·skip
              refine ops_y hH41 rfl rfl (yv_load T.one22 rfl (fun _ hw => Heap.cellw hw (n := 5) rfl rfl)) ?_
              refine ops_nil ?_
              refine ⟨trivial, ?_⟩
              refine any_all [6] (by kernel_rfl) rfl ?_
              refine ⟨⟨_, rfl, ?_⟩, trivial⟩
              ·skip
               refine ops_y hH41 rfl rfl (yv_loadA (cs := [(.int .i64 ((nth l (k : Int)).n)), (.int .i64 ((nth l (k : Int)).d)), (.int .i64 ((nth l (k : Int)).f)), (.int .i64 ((nth l (k : Int)).t)), (.int .i64 ((nth l (k : Int)).a))]) T.agg38 rfl rfl (fun _ hw => Rd.atA (h0.now hw (n := 8) rfl) (i := (k : Int)) (by omega))) ?_
               refine ops_nil ?_
               refine ⟨trivial, ?_⟩
               refine any_all [7] (by kernel_rfl) rfl ?_
               refine ⟨⟨_, rfl, ?_⟩, trivial⟩
               ·skip
                refine op_lit (us := [(0, (.agg #[(.int .i64 ((nth l (k : Int)).n)), (.int .i64 ((nth l (k : Int)).d)), (.int .i64 ((nth l (k : Int)).f)), (.int .i64 ((nth l (k : Int)).t)), (.int .i64 ((nth l (k : Int)).a))]))]) T.el22_encE [(nth l (k : Int))] rfl (by decide) rfl (fun a ha => by simp [ha.ev (show ev _ (.tmp 78) = some _ from rfl)]) (fun w => by kernel_rfl) hH41 (fun u55 lo57 hi58 w56 hH59 => ?_)
                refine ops_nil ?_
                refine ⟨trivial, ?_⟩
                refine any_all [8] (by kernel_rfl) rfl ?_
                refine ⟨⟨_, rfl, ?_⟩, trivial⟩
                ·skip
                 refine op_append (n := 3) T.el22_encE rfl rfl rfl hH59 rfl (Heap.rdw T.el22_encE hH59 (n := 0) rfl) (by first | omega | (simp only [List.length_append, List.length_cons, List.length_nil]; omega)) (fun u60 lo62 hi63 w61 hH64 => ?_)
                 refine ops_nil ?_
                 refine ⟨trivial, ?_⟩
                 refine any_takes [9] (by kernel_rfl) trivial _ _ _ (by kernel_rfl) ?_
                 refine qs_y rfl rfl (yv_field T.f24_0 rfl) ?_
                 refine qs_nil ?_
                 refine any_all [10] (by kernel_rfl) rfl ?_
                 refine ⟨⟨_, rfl, ?_⟩, trivial⟩
                 ·skip
                  refine op_store (n := 6) (j := 0) (us := [u60]) rfl rfl hH64 rfl T.sz22 (SliceIs.cells (Heap.rdw T.el22_encE hH64 (n := 3) rfl).is) rfl rfl (SliceIs.one (Heap.rdw T.el22_encE hH64 (n := 3) rfl).is) (fun w65 hH66 => ?_)
                  refine ops_nil ?_
                  refine ⟨trivial, ?_⟩
                  refine any_done (by kernel_rfl) ?_
                  refine blk_n (thn_n (region (oM hH66 rfl rfl ?_)))
                  refine ops_y hH66 rfl rfl (yv_add rfl rfl (by omega)) ?_
                  refine oA hH66 rfl rfl (ops_nil ?_)
                  have hH67 := (hH66.sub (sC (sC sR)))
                  refine lp_n (k + 1, u31, lo33, hi34, u60, lo62, hi63, v_b13, lo_b13, hi_b13) (uC rfl (uC rfl (uC rfl (uC rfl (uC rfl (uC rfl (uC rfl (uC rfl (uC rfl (uC rfl (Sub.nil _))))))))))) ?_ ?_
                  ·exact ⟨(Heap.recast (n := 0) (Heap.recast (n := 1) (Heap.recast (n := 2) hH67 rfl ((by first | exact B.sel_t hp1 | exact B.sel_f hp1))) rfl ((by first | exact B.sel_t hp2 | exact B.sel_f hp2))) rfl ((by first | exact B.sel_t hq1 | exact B.sel_f hq1))), by omega⟩
                  ·first | (dsimp only; omega) | (show _ < _; omega)
             ·skip
              refine ops_y hH41 rfl rfl (yv_loadA (cs := [(.int .i64 ((nth l (k : Int)).n)), (.int .i64 ((nth l (k : Int)).d)), (.int .i64 ((nth l (k : Int)).f)), (.int .i64 ((nth l (k : Int)).t)), (.int .i64 ((nth l (k : Int)).a))]) T.agg38 rfl rfl (fun _ hw => Rd.atA (h0.now hw (n := 8) rfl) (i := (k : Int)) (by omega))) ?_
              refine ops_nil ?_
              refine ⟨trivial, ?_⟩
              refine any_all [1, 7] (by kernel_rfl) rfl ?_
              refine ⟨⟨_, rfl, ?_⟩, ⟨_, rfl, ?_⟩, trivial⟩
              ·skip
               refine ops_y hH41 rfl rfl (yv_load T.one22 rfl (fun _ hw => Heap.cellw hw (n := 5) rfl rfl)) ?_
               refine ops_nil ?_
               refine ⟨trivial, ?_⟩
               refine any_all [7] (by kernel_rfl) rfl ?_
               refine ⟨⟨_, rfl, ?_⟩, trivial⟩
               ·skip
                refine op_lit (us := [(0, (.agg #[(.int .i64 ((nth l (k : Int)).n)), (.int .i64 ((nth l (k : Int)).d)), (.int .i64 ((nth l (k : Int)).f)), (.int .i64 ((nth l (k : Int)).t)), (.int .i64 ((nth l (k : Int)).a))]))]) T.el22_encE [(nth l (k : Int))] rfl (by decide) rfl (fun a ha => by simp [ha.ev (show ev _ (.tmp 78) = some _ from rfl)]) (fun w => by kernel_rfl) hH41 (fun u68 lo70 hi71 w69 hH72 => ?_)
                refine ops_nil ?_
                refine ⟨trivial, ?_⟩
                refine any_all [8] (by kernel_rfl) rfl ?_
                refine ⟨⟨_, rfl, ?_⟩, trivial⟩
                ·skip
                 refine op_append (n := 3) T.el22_encE rfl rfl rfl hH72 rfl (Heap.rdw T.el22_encE hH72 (n := 0) rfl) (by first | omega | (simp only [List.length_append, List.length_cons, List.length_nil]; omega)) (fun u73 lo75 hi76 w74 hH77 => ?_)
                 refine ops_nil ?_
                 refine ⟨trivial, ?_⟩
                 refine any_takes [9] (by kernel_rfl) trivial _ _ _ (by kernel_rfl) ?_
                 refine qs_y rfl rfl (yv_field T.f24_0 rfl) ?_
                 refine qs_nil ?_
                 refine any_all [10] (by kernel_rfl) rfl ?_
                 refine ⟨⟨_, rfl, ?_⟩, trivial⟩
                 ·skip
                  refine op_store (n := 6) (j := 0) (us := [u73]) rfl rfl hH77 rfl T.sz22 (SliceIs.cells (Heap.rdw T.el22_encE hH77 (n := 3) rfl).is) rfl rfl (SliceIs.one (Heap.rdw T.el22_encE hH77 (n := 3) rfl).is) (fun w78 hH79 => ?_)
                  refine ops_nil ?_
                  refine ⟨trivial, ?_⟩
                  refine any_done (by kernel_rfl) ?_
                  refine blk_n (thn_n (region (oM hH79 rfl rfl ?_)))
                  refine ops_y hH79 rfl rfl (yv_add rfl rfl (by omega)) ?_
                  refine oA hH79 rfl rfl (ops_nil ?_)
                  have hH80 := (hH79.sub (sC (sC sR)))
                  refine lp_n (k + 1, u31, lo33, hi34, u73, lo75, hi76, v_b13, lo_b13, hi_b13) (uC rfl (uC rfl (uC rfl (uC rfl (uC rfl (uC rfl (uC rfl (uC rfl (uC rfl (uC rfl (Sub.nil _))))))))))) ?_ ?_
                  ·exact ⟨(Heap.recast (n := 0) (Heap.recast (n := 1) (Heap.recast (n := 2) hH80 rfl ((by first | exact B.sel_t hp1 | exact B.sel_f hp1))) rfl ((by first | exact B.sel_t hp2 | exact B.sel_f hp2))) rfl ((by first | exact B.sel_t hq1 | exact B.sel_f hq1))), by omega⟩
                  ·first | (dsimp only; omega) | (show _ < _; omega)
              ·skip
               refine op_lit (us := [(0, (.agg #[(.int .i64 ((nth l (k : Int)).n)), (.int .i64 ((nth l (k : Int)).d)), (.int .i64 ((nth l (k : Int)).f)), (.int .i64 ((nth l (k : Int)).t)), (.int .i64 ((nth l (k : Int)).a))]))]) T.el22_encE [(nth l (k : Int))] rfl (by decide) rfl (fun a ha => by simp [ha.ev (show ev _ (.tmp 78) = some _ from rfl)]) (fun w => by kernel_rfl) hH41 (fun u81 lo83 hi84 w82 hH85 => ?_)
               refine ops_nil ?_
               refine ⟨trivial, ?_⟩
               refine any_all [1] (by kernel_rfl) rfl ?_
               refine ⟨⟨_, rfl, ?_⟩, trivial⟩
               ·skip
                refine ops_y hH85 rfl rfl (yv_load T.one22 rfl (fun _ hw => Heap.cellw hw (n := 6) rfl rfl)) ?_
                refine ops_nil ?_
                refine ⟨trivial, ?_⟩
                refine any_all [8] (by kernel_rfl) rfl ?_
                refine ⟨⟨_, rfl, ?_⟩, trivial⟩
                ·skip
                 refine op_append (n := 3) T.el22_encE rfl rfl rfl hH85 rfl (Heap.rdw T.el22_encE hH85 (n := 0) rfl) (by first | omega | (simp only [List.length_append, List.length_cons, List.length_nil]; omega)) (fun u86 lo88 hi89 w87 hH90 => ?_)
                 refine ops_nil ?_
                 refine ⟨trivial, ?_⟩
                 refine any_takes [9] (by kernel_rfl) trivial _ _ _ (by kernel_rfl) ?_
                 refine qs_y rfl rfl (yv_field T.f24_0 rfl) ?_
                 refine qs_nil ?_
                 refine any_all [10] (by kernel_rfl) rfl ?_
                 refine ⟨⟨_, rfl, ?_⟩, trivial⟩
                 ·skip
                  refine op_store (n := 6) (j := 0) (us := [u86]) rfl rfl hH90 rfl T.sz22 (SliceIs.cells (Heap.rdw T.el22_encE hH90 (n := 3) rfl).is) rfl rfl (SliceIs.one (Heap.rdw T.el22_encE hH90 (n := 3) rfl).is) (fun w91 hH92 => ?_)
                  refine ops_nil ?_
                  refine ⟨trivial, ?_⟩
                  refine any_done (by kernel_rfl) ?_
                  refine blk_n (thn_n (region (oM hH92 rfl rfl ?_)))
                  refine ops_y hH92 rfl rfl (yv_add rfl rfl (by omega)) ?_
                  refine oA hH92 rfl rfl (ops_nil ?_)
                  have hH93 := (hH92.sub (sC (sC sR)))
                  refine lp_n (k + 1, u31, lo33, hi34, u86, lo88, hi89, v_b13, lo_b13, hi_b13) (uC rfl (uC rfl (uC rfl (uC rfl (uC rfl (uC rfl (uC rfl (uC rfl (uC rfl (uC rfl (Sub.nil _))))))))))) ?_ ?_
                  ·exact ⟨(Heap.recast (n := 0) (Heap.recast (n := 1) (Heap.recast (n := 2) hH93 rfl ((by first | exact B.sel_t hp1 | exact B.sel_f hp1))) rfl ((by first | exact B.sel_t hp2 | exact B.sel_f hp2))) rfl ((by first | exact B.sel_t hq1 | exact B.sel_f hq1))), by omega⟩
                  ·first | (dsimp only; omega) | (show _ < _; omega)
           ·skip
            have hp2 : ¬ bit32 o2 k = true := fun h => absurd (of_decide_eq_true h) ‹_›
            refine cond_f rfl (dF hc38) ?_
            refine skip (blk_n (thn_n (region (oM hH37 rfl rfl ?_))))
            refine ops_y hH37 rfl rfl (yv_add rfl rfl (by omega)) ?_
            refine oA hH37 rfl rfl (ops_nil ?_)
            have hH94 := (hH37.sub (sC sR))
            refine lp_n (k + 1, u31, lo33, hi34, v_b12, lo_b12, hi_b12, v_b13, lo_b13, hi_b13) (uC rfl (uC rfl (uC rfl (uC rfl (uC rfl (uC rfl (uC rfl (uC rfl (uC rfl (uC rfl (Sub.nil _))))))))))) ?_ ?_
            ·exact ⟨(Heap.recast (n := 0) (Heap.recast (n := 1) (Heap.recast (n := 2) hH94 rfl ((by first | exact B.sel_t hp1 | exact B.sel_f hp1))) rfl ((by first | exact B.sel_t hp2 | exact B.sel_f hp2))) rfl ((by first | exact B.sel_t hq1 | exact B.sel_f hq1))), by omega⟩
            ·first | (dsimp only; omega) | (show _ < _; omega)
     ·skip
      refine ops_y hH25 rfl rfl (yv_load T.one22 rfl (fun _ hw => Heap.cellw hw (n := 6) rfl rfl)) ?_
      refine ops_nil ?_
      refine ⟨trivial, ?_⟩
      refine any_takes [5] (by kernel_rfl) trivial _ _ _ (by kernel_rfl) ?_
      refine qs_y rfl rfl (yv_index T.sl22 rfl rfl (h0.now hH25 (n := 7) rfl).is (by omega)) ?_
      refine qs_nil ?_
      refine any_all [1, 6] (by kernel_rfl) rfl ?_
      refine ⟨⟨_, rfl, ?_⟩, ⟨_, rfl, ?_⟩, trivial⟩
      ·skip
       refine ops_y hH25 rfl rfl (yv_load T.one22 rfl (fun _ hw => Heap.cellw hw (n := 5) rfl rfl)) ?_
       refine ops_nil ?_
       refine ⟨trivial, ?_⟩
       refine any_all [6] (by kernel_rfl) rfl ?_
       refine ⟨⟨_, rfl, ?_⟩, trivial⟩
       ·skip
        refine ops_y hH25 rfl rfl (yv_loadA (cs := [(.int .i64 ((nth l (k : Int)).n)), (.int .i64 ((nth l (k : Int)).d)), (.int .i64 ((nth l (k : Int)).f)), (.int .i64 ((nth l (k : Int)).t)), (.int .i64 ((nth l (k : Int)).a))]) T.agg38 rfl rfl (fun _ hw => Rd.atA (h0.now hw (n := 7) rfl) (i := (k : Int)) (by omega))) ?_
        refine ops_nil ?_
        refine ⟨trivial, ?_⟩
        refine any_all [7] (by kernel_rfl) rfl ?_
        refine ⟨⟨_, rfl, ?_⟩, trivial⟩
        ·skip
         refine op_lit (us := [(0, (.agg #[(.int .i64 ((nth l (k : Int)).n)), (.int .i64 ((nth l (k : Int)).d)), (.int .i64 ((nth l (k : Int)).f)), (.int .i64 ((nth l (k : Int)).t)), (.int .i64 ((nth l (k : Int)).a))]))]) T.el22_encE [(nth l (k : Int))] rfl (by decide) rfl (fun a ha => by simp [ha.ev (show ev _ (.tmp 53) = some _ from rfl)]) (fun w => by kernel_rfl) hH25 (fun u95 lo97 hi98 w96 hH99 => ?_)
         refine ops_nil ?_
         refine ⟨trivial, ?_⟩
         refine any_all [8] (by kernel_rfl) rfl ?_
         refine ⟨⟨_, rfl, ?_⟩, trivial⟩
         ·skip
          refine op_append (n := 3) T.el22_encE rfl rfl rfl hH99 rfl (Heap.rdw T.el22_encE hH99 (n := 0) rfl) (by first | omega | (simp only [List.length_append, List.length_cons, List.length_nil]; omega)) (fun u100 lo102 hi103 w101 hH104 => ?_)
          refine ops_nil ?_
          refine ⟨trivial, ?_⟩
          refine any_takes [9] (by kernel_rfl) trivial _ _ _ (by kernel_rfl) ?_
          refine qs_y rfl rfl (yv_field T.f24_0 rfl) ?_
          refine qs_nil ?_
          refine any_all [10] (by kernel_rfl) rfl ?_
          refine ⟨⟨_, rfl, ?_⟩, trivial⟩
          ·skip
           refine op_store (n := 6) (j := 0) (us := [u100]) rfl rfl hH104 rfl T.sz22 (SliceIs.cells (Heap.rdw T.el22_encE hH104 (n := 3) rfl).is) rfl rfl (SliceIs.one (Heap.rdw T.el22_encE hH104 (n := 3) rfl).is) (fun w105 hH106 => ?_)
           refine ops_nil ?_
           refine ⟨trivial, ?_⟩
           refine any_done (by kernel_rfl) ?_
           refine thn_n (seq (region (oM hH106 rfl rfl (oM hH106 rfl rfl ?_))))
           refine ops_y hH106 rfl rfl (yv_shr32u rfl rfl (by omega)) ?_
           refine ops_y hH106 rfl rfl (yv_and32u rfl rfl) ?_
           refine ops_y hH106 rfl rfl (yv_eql rfl rfl) ?_
           refine ops_nil (thn_n ?_)
           by_cases hc107 : (and32 (o2 / 2 ^ ((k : Int)).toNat)) = 1
           ·skip
            have hp2 : bit32 o2 k = true := dT ‹_›
            refine cond_t rfl (dT hc107) ?_
            refine region_draw (fun w' => True) T.mixed (fun w108 hr109 => ?_)
            have hH110 := hH106.redrawn hr109
            refine any_takes [0, 2, 4] (by kernel_rfl) trivial _ _ _ (by kernel_rfl) ?_
            refine qs_y rfl rfl (yv_field T.f24_0 rfl) ?_
            refine qs_y rfl rfl (yv_field T.f24_0 rfl) ?_
            refine qM rfl rfl rfl (qs_nil ?_)
            refine any_all [1, 3] (by kernel_rfl) rfl ?_
            refine ⟨⟨_, rfl, ?_⟩, ⟨_, rfl, ?_⟩, trivial⟩
            ·skip
             refine ops_y hH110 rfl rfl (yv_load T.one22 rfl (fun _ hw => Heap.cellw hw (n := 5) rfl rfl)) ?_
             refine ops_nil ?_
             refine ⟨trivial, ?_⟩
             refine any_all [3] (by kernel_rfl) rfl ?_
             refine ⟨⟨_, rfl, ?_⟩, trivial⟩
             ·skip
              refine ops_y hH110 rfl rfl (yv_load T.one22 rfl (fun _ hw => Heap.cellw hw (n := 7) rfl rfl)) ?_
              refine ops_nil ?_
              refine ⟨trivial, ?_⟩
              refine any_takes [5] (by kernel_rfl) trivial _ _ _ (by kernel_rfl) ?_
              refine qs_y rfl rfl (yv_index T.sl22 rfl rfl (h0.now hH110 (n := 8) rfl).is (by omega)) ?_
              refine qs_nil ?_
              refine any_all [6] (by kernel_rfl) rfl ?_
              refine ⟨⟨_, rfl, ?_⟩, trivial⟩
              ·skip
               refine ops_y hH110 rfl rfl (yv_loadA (cs := [(.int .i64 ((nth l (k : Int)).n)), (.int .i64 ((nth l (k : Int)).d)), (.int .i64 ((nth l (k : Int)).f)), (.int .i64 ((nth l (k : Int)).t)), (.int .i64 ((nth l (k : Int)).a))]) T.agg38 rfl rfl (fun _ hw => Rd.atA (h0.now hw (n := 8) rfl) (i := (k : Int)) (by omega))) ?_
               refine ops_nil ?_
               refine ⟨trivial, ?_⟩
               refine any_all [7] (by kernel_rfl) rfl ?_
               refine ⟨⟨_, rfl, ?_⟩, trivial⟩
               ·skip
                refine op_lit (us := [(0, (.agg #[(.int .i64 ((nth l (k : Int)).n)), (.int .i64 ((nth l (k : Int)).d)), (.int .i64 ((nth l (k : Int)).f)), (.int .i64 ((nth l (k : Int)).t)), (.int .i64 ((nth l (k : Int)).a))]))]) T.el22_encE [(nth l (k : Int))] rfl (by decide) rfl (fun a ha => by simp [ha.ev (show ev _ (.tmp 78) = some _ from rfl)]) (fun w => by kernel_rfl) hH110 (fun u111 lo113 hi114 w112 hH115 => ?_)
                refine ops_nil ?_
                refine ⟨trivial, ?_⟩
                refine any_all [8] (by kernel_rfl) rfl ?_
                refine ⟨⟨_, rfl, ?_⟩, trivial⟩
                ·skip
                 refine op_append (n := 3) T.el22_encE rfl rfl rfl hH115 rfl (Heap.rdw T.el22_encE hH115 (n := 0) rfl) (by first | omega | (simp only [List.length_append, List.length_cons, List.length_nil]; omega)) (fun u116 lo118 hi119 w117 hH120 => ?_)
                 refine ops_nil ?_
                 refine ⟨trivial, ?_⟩
                 refine any_takes [9] (by kernel_rfl) trivial _ _ _ (by kernel_rfl) ?_
                 refine qs_y rfl rfl (yv_field T.f24_0 rfl) ?_
                 refine qs_nil ?_
                 refine any_all [10] (by kernel_rfl) rfl ?_
                 refine ⟨⟨_, rfl, ?_⟩, trivial⟩
                 ·skip
                  refine op_store (n := 6) (j := 0) (us := [u116]) rfl rfl hH120 rfl T.sz22 (SliceIs.cells (Heap.rdw T.el22_encE hH120 (n := 3) rfl).is) rfl rfl (SliceIs.one (Heap.rdw T.el22_encE hH120 (n := 3) rfl).is) (fun w121 hH122 => ?_)
                  refine ops_nil ?_
                  refine ⟨trivial, ?_⟩
                  refine any_done (by kernel_rfl) ?_
                  refine blk_n (thn_n (region (oM hH122 rfl rfl ?_)))
                  refine ops_y hH122 rfl rfl (yv_add rfl rfl (by omega)) ?_
                  refine oA hH122 rfl rfl (ops_nil ?_)
                  have hH123 := (hH122.sub (sC (sC sR)))
                  refine lp_n (k + 1, u100, lo102, hi103, u116, lo118, hi119, v_b13, lo_b13, hi_b13) (uC rfl (uC rfl (uC rfl (uC rfl (uC rfl (uC rfl (uC rfl (uC rfl (uC rfl (uC rfl (Sub.nil _))))))))))) ?_ ?_
                  ·exact ⟨(Heap.recast (n := 0) (Heap.recast (n := 1) (Heap.recast (n := 2) hH123 rfl ((by first | exact B.sel_t hp1 | exact B.sel_f hp1))) rfl ((by first | exact B.sel_t hp2 | exact B.sel_f hp2))) rfl ((by first | exact B.sel_t hq1 | exact B.sel_f hq1))), by omega⟩
                  ·first | (dsimp only; omega) | (show _ < _; omega)
            ·skip
             refine ops_y hH110 rfl rfl (yv_load T.one22 rfl (fun _ hw => Heap.cellw hw (n := 7) rfl rfl)) ?_
             refine ops_nil ?_
             refine ⟨trivial, ?_⟩
             refine any_takes [5] (by kernel_rfl) trivial _ _ _ (by kernel_rfl) ?_
             refine qs_y rfl rfl (yv_index T.sl22 rfl rfl (h0.now hH110 (n := 8) rfl).is (by omega)) ?_
             refine qs_nil ?_
             refine any_all [1, 6] (by kernel_rfl) rfl ?_
             refine ⟨⟨_, rfl, ?_⟩, ⟨_, rfl, ?_⟩, trivial⟩
             ·skip
              refine ops_y hH110 rfl rfl (yv_load T.one22 rfl (fun _ hw => Heap.cellw hw (n := 5) rfl rfl)) ?_
              refine ops_nil ?_
              refine ⟨trivial, ?_⟩
              refine any_all [6] (by kernel_rfl) rfl ?_
              refine ⟨⟨_, rfl, ?_⟩, trivial⟩
              ·skip
               refine ops_y hH110 rfl rfl (yv_loadA (cs := [(.int .i64 ((nth l (k : Int)).n)), (.int .i64 ((nth l (k : Int)).d)), (.int .i64 ((nth l (k : Int)).f)), (.int .i64 ((nth l (k : Int)).t)), (.int .i64 ((nth l (k : Int)).a))]) T.agg38 rfl rfl (fun _ hw => Rd.atA (h0.now hw (n := 8) rfl) (i := (k : Int)) (by omega))) ?_
               refine ops_nil ?_
               refine ⟨trivial, ?_⟩
               refine any_all [7] (by kernel_rfl) rfl ?_
               refine ⟨⟨_, rfl, ?_⟩, trivial⟩
               ·skip
                refine op_lit (us := [(0, (.agg #[(.int .i64 ((nth l (k : Int)).n)), (.int .i64 ((nth l (k : Int)).d)), (.int .i64 ((nth l (k : Int)).f)), (.int .i64 ((nth l (k : Int)).t)), (.int .i64 ((nth l (k : Int)).a))]))]) T.el22_encE [(nth l (k : Int))] rfl (by decide) rfl (fun a ha => by simp [ha.ev (show ev _ (.tmp 78) = some _ from rfl)]) (fun w => by kernel_rfl) hH110 (fun u124 lo126 hi127 w125 hH128 => ?_)
                refine ops_nil ?_
                refine ⟨trivial, ?_⟩
                refine any_all [8] (by kernel_rfl) rfl ?_
                refine ⟨⟨_, rfl, ?_⟩, trivial⟩
                ·skip
                 refine op_append (n := 3) T.el22_encE rfl rfl rfl hH128 rfl (Heap.rdw T.el22_encE hH128 (n := 0) rfl) (by first | omega | (simp only [List.length_append, List.length_cons, List.length_nil]; omega)) (fun u129 lo131 hi132 w130 hH133 => ?_)
                 refine ops_nil ?_
                 refine ⟨trivial, ?_⟩
                 refine any_takes [9] (by kernel_rfl) trivial _ _ _ (by kernel_rfl) ?_
                 refine qs_y rfl rfl (yv_field T.f24_0 rfl) ?_
                 refine qs_nil ?_
                 refine any_all [10] (by kernel_rfl) rfl ?_
                 refine ⟨⟨_, rfl, ?_⟩, trivial⟩
                 ·skip
                  refine op_store (n := 6) (j := 0) (us := [u129]) rfl rfl hH133 rfl T.sz22 (SliceIs.cells (Heap.rdw T.el22_encE hH133 (n := 3) rfl).is) rfl rfl (SliceIs.one (Heap.rdw T.el22_encE hH133 (n := 3) rfl).is) (fun w134 hH135 => ?_)
                  refine ops_nil ?_
                  refine ⟨trivial, ?_⟩
                  refine any_done (by kernel_rfl) ?_
                  refine blk_n (thn_n (region (oM hH135 rfl rfl ?_)))
                  refine ops_y hH135 rfl rfl (yv_add rfl rfl (by omega)) ?_
                  refine oA hH135 rfl rfl (ops_nil ?_)
                  have hH136 := (hH135.sub (sC (sC sR)))
                  refine lp_n (k + 1, u100, lo102, hi103, u129, lo131, hi132, v_b13, lo_b13, hi_b13) (uC rfl (uC rfl (uC rfl (uC rfl (uC rfl (uC rfl (uC rfl (uC rfl (uC rfl (uC rfl (Sub.nil _))))))))))) ?_ ?_
                  ·exact ⟨(Heap.recast (n := 0) (Heap.recast (n := 1) (Heap.recast (n := 2) hH136 rfl ((by first | exact B.sel_t hp1 | exact B.sel_f hp1))) rfl ((by first | exact B.sel_t hp2 | exact B.sel_f hp2))) rfl ((by first | exact B.sel_t hq1 | exact B.sel_f hq1))), by omega⟩
                  ·first | (dsimp only; omega) | (show _ < _; omega)
             ·skip
              refine ops_y hH110 rfl rfl (yv_loadA (cs := [(.int .i64 ((nth l (k : Int)).n)), (.int .i64 ((nth l (k : Int)).d)), (.int .i64 ((nth l (k : Int)).f)), (.int .i64 ((nth l (k : Int)).t)), (.int .i64 ((nth l (k : Int)).a))]) T.agg38 rfl rfl (fun _ hw => Rd.atA (h0.now hw (n := 8) rfl) (i := (k : Int)) (by omega))) ?_
              refine ops_nil ?_
              refine ⟨trivial, ?_⟩
              refine any_all [1, 7] (by kernel_rfl) rfl ?_
              refine ⟨⟨_, rfl, ?_⟩, ⟨_, rfl, ?_⟩, trivial⟩
              ·skip
               refine ops_y hH110 rfl rfl (yv_load T.one22 rfl (fun _ hw => Heap.cellw hw (n := 5) rfl rfl)) ?_
               refine ops_nil ?_
               refine ⟨trivial, ?_⟩
               refine any_all [7] (by kernel_rfl) rfl ?_
               refine ⟨⟨_, rfl, ?_⟩, trivial⟩
               ·skip
                refine op_lit (us := [(0, (.agg #[(.int .i64 ((nth l (k : Int)).n)), (.int .i64 ((nth l (k : Int)).d)), (.int .i64 ((nth l (k : Int)).f)), (.int .i64 ((nth l (k : Int)).t)), (.int .i64 ((nth l (k : Int)).a))]))]) T.el22_encE [(nth l (k : Int))] rfl (by decide) rfl (fun a ha => by simp [ha.ev (show ev _ (.tmp 78) = some _ from rfl)]) (fun w => by kernel_rfl) hH110 (fun u137 lo139 hi140 w138 hH141 => ?_)
                refine ops_nil ?_
                refine ⟨trivial, ?_⟩
                refine any_all [8] (by kernel_rfl) rfl ?_
                refine ⟨⟨_, rfl, ?_⟩, trivial⟩
                ·skip
                 refine op_append (n := 3) T.el22_encE rfl rfl rfl hH141 rfl (Heap.rdw T.el22_encE hH141 (n := 0) rfl) (by first | omega | (simp only [List.length_append, List.length_cons, List.length_nil]; omega)) (fun u142 lo144 hi145 w143 hH146 => ?_)
                 refine ops_nil ?_
                 refine ⟨trivial, ?_⟩
                 refine any_takes [9] (by kernel_rfl) trivial _ _ _ (by kernel_rfl) ?_
                 refine qs_y rfl rfl (yv_field T.f24_0 rfl) ?_
                 refine qs_nil ?_
                 refine any_all [10] (by kernel_rfl) rfl ?_
                 refine ⟨⟨_, rfl, ?_⟩, trivial⟩
                 ·skip
                  refine op_store (n := 6) (j := 0) (us := [u142]) rfl rfl hH146 rfl T.sz22 (SliceIs.cells (Heap.rdw T.el22_encE hH146 (n := 3) rfl).is) rfl rfl (SliceIs.one (Heap.rdw T.el22_encE hH146 (n := 3) rfl).is) (fun w147 hH148 => ?_)
                  refine ops_nil ?_
                  refine ⟨trivial, ?_⟩
                  refine any_done (by kernel_rfl) ?_
                  refine blk_n (thn_n (region (oM hH148 rfl rfl ?_)))
                  refine ops_y hH148 rfl rfl (yv_add rfl rfl (by omega)) ?_
                  refine oA hH148 rfl rfl (ops_nil ?_)
                  have hH149 := (hH148.sub (sC (sC sR)))
                  refine lp_n (k + 1, u100, lo102, hi103, u142, lo144, hi145, v_b13, lo_b13, hi_b13) (uC rfl (uC rfl (uC rfl (uC rfl (uC rfl (uC rfl (uC rfl (uC rfl (uC rfl (uC rfl (Sub.nil _))))))))))) ?_ ?_
                  ·exact ⟨(Heap.recast (n := 0) (Heap.recast (n := 1) (Heap.recast (n := 2) hH149 rfl ((by first | exact B.sel_t hp1 | exact B.sel_f hp1))) rfl ((by first | exact B.sel_t hp2 | exact B.sel_f hp2))) rfl ((by first | exact B.sel_t hq1 | exact B.sel_f hq1))), by omega⟩
                  ·first | (dsimp only; omega) | (show _ < _; omega)
              ·skip
               refine op_lit (us := [(0, (.agg #[(.int .i64 ((nth l (k : Int)).n)), (.int .i64 ((nth l (k : Int)).d)), (.int .i64 ((nth l (k : Int)).f)), (.int .i64 ((nth l (k : Int)).t)), (.int .i64 ((nth l (k : Int)).a))]))]) T.el22_encE [(nth l (k : Int))] rfl (by decide) rfl (fun a ha => by simp [ha.ev (show ev _ (.tmp 78) = some _ from rfl)]) (fun w => by kernel_rfl) hH110 (fun u150 lo152 hi153 w151 hH154 => ?_)
               refine ops_nil ?_
               refine ⟨trivial, ?_⟩
               refine any_all [1] (by kernel_rfl) rfl ?_
               refine ⟨⟨_, rfl, ?_⟩, trivial⟩
               ·skip
                refine ops_y hH154 rfl rfl (yv_load T.one22 rfl (fun _ hw => Heap.cellw hw (n := 6) rfl rfl)) ?_
                refine ops_nil ?_
                refine ⟨trivial, ?_⟩
                refine any_all [8] (by kernel_rfl) rfl ?_
                refine ⟨⟨_, rfl, ?_⟩, trivial⟩
                ·skip
                 refine op_append (n := 3) T.el22_encE rfl rfl rfl hH154 rfl (Heap.rdw T.el22_encE hH154 (n := 0) rfl) (by first | omega | (simp only [List.length_append, List.length_cons, List.length_nil]; omega)) (fun u155 lo157 hi158 w156 hH159 => ?_)
                 refine ops_nil ?_
                 refine ⟨trivial, ?_⟩
                 refine any_takes [9] (by kernel_rfl) trivial _ _ _ (by kernel_rfl) ?_
                 refine qs_y rfl rfl (yv_field T.f24_0 rfl) ?_
                 refine qs_nil ?_
                 refine any_all [10] (by kernel_rfl) rfl ?_
                 refine ⟨⟨_, rfl, ?_⟩, trivial⟩
                 ·skip
                  refine op_store (n := 6) (j := 0) (us := [u155]) rfl rfl hH159 rfl T.sz22 (SliceIs.cells (Heap.rdw T.el22_encE hH159 (n := 3) rfl).is) rfl rfl (SliceIs.one (Heap.rdw T.el22_encE hH159 (n := 3) rfl).is) (fun w160 hH161 => ?_)
                  refine ops_nil ?_
                  refine ⟨trivial, ?_⟩
                  refine any_done (by kernel_rfl) ?_
                  refine blk_n (thn_n (region (oM hH161 rfl rfl ?_)))
                  refine ops_y hH161 rfl rfl (yv_add rfl rfl (by omega)) ?_
                  refine oA hH161 rfl rfl (ops_nil ?_)
                  have hH162 := (hH161.sub (sC (sC sR)))
                  refine lp_n (k + 1, u100, lo102, hi103, u155, lo157, hi158, v_b13, lo_b13, hi_b13) (uC rfl (uC rfl (uC rfl (uC rfl (uC rfl (uC rfl (uC rfl (uC rfl (uC rfl (uC rfl (Sub.nil _))))))))))) ?_ ?_
                  ·exact ⟨(Heap.recast (n := 0) (Heap.recast (n := 1) (Heap.recast (n := 2) hH162 rfl ((by first | exact B.sel_t hp1 | exact B.sel_f hp1))) rfl ((by first | exact B.sel_t hp2 | exact B.sel_f hp2))) rfl ((by first | exact B.sel_t hq1 | exact B.sel_f hq1))), by omega⟩
                  ·first | (dsimp only; omega) | (show _ < _; omega)
           ·skip
            have hp2 : ¬ bit32 o2 k = true := fun h => absurd (of_decide_eq_true h) ‹_›
            refine cond_f rfl (dF hc107) ?_
            refine skip (blk_n (thn_n (region (oM hH106 rfl rfl ?_))))
            refine ops_y hH106 rfl rfl (yv_add rfl rfl (by omega)) ?_
            refine oA hH106 rfl rfl (ops_nil ?_)
            have hH163 := (hH106.sub (sC sR))
            refine lp_n (k + 1, u100, lo102, hi103, v_b12, lo_b12, hi_b12, v_b13, lo_b13, hi_b13) (uC rfl (uC rfl (uC rfl (uC rfl (uC rfl (uC rfl (uC rfl (uC rfl (uC rfl (uC rfl (Sub.nil _))))))))))) ?_ ?_
            ·exact ⟨(Heap.recast (n := 0) (Heap.recast (n := 1) (Heap.recast (n := 2) hH163 rfl ((by first | exact B.sel_t hp1 | exact B.sel_f hp1))) rfl ((by first | exact B.sel_t hp2 | exact B.sel_f hp2))) rfl ((by first | exact B.sel_t hq1 | exact B.sel_f hq1))), by omega⟩
            ·first | (dsimp only; omega) | (show _ < _; omega)
      ·skip
       refine ops_y hH25 rfl rfl (yv_loadA (cs := [(.int .i64 ((nth l (k : Int)).n)), (.int .i64 ((nth l (k : Int)).d)), (.int .i64 ((nth l (k : Int)).f)), (.int .i64 ((nth l (k : Int)).t)), (.int .i64 ((nth l (k : Int)).a))]) T.agg38 rfl rfl (fun _ hw => Rd.atA (h0.now hw (n := 7) rfl) (i := (k : Int)) (by omega))) ?_
       refine ops_nil ?_
       refine ⟨trivial, ?_⟩
       refine any_all [1, 7] (by kernel_rfl) rfl ?_
       refine ⟨⟨_, rfl, ?_⟩, ⟨_, rfl, ?_⟩, trivial⟩
       ·skip
        refine ops_y hH25 rfl rfl (yv_load T.one22 rfl (fun _ hw => Heap.cellw hw (n := 5) rfl rfl)) ?_
        refine ops_nil ?_
        refine ⟨trivial, ?_⟩
        refine any_all [7] (by kernel_rfl) rfl ?_
        refine ⟨⟨_, rfl, ?_⟩, trivial⟩
        ·skip
         refine op_lit (us := [(0, (.agg #[(.int .i64 ((nth l (k : Int)).n)), (.int .i64 ((nth l (k : Int)).d)), (.int .i64 ((nth l (k : Int)).f)), (.int .i64 ((nth l (k : Int)).t)), (.int .i64 ((nth l (k : Int)).a))]))]) T.el22_encE [(nth l (k : Int))] rfl (by decide) rfl (fun a ha => by simp [ha.ev (show ev _ (.tmp 53) = some _ from rfl)]) (fun w => by kernel_rfl) hH25 (fun u164 lo166 hi167 w165 hH168 => ?_)
         refine ops_nil ?_
         refine ⟨trivial, ?_⟩
         refine any_all [8] (by kernel_rfl) rfl ?_
         refine ⟨⟨_, rfl, ?_⟩, trivial⟩
         ·skip
          refine op_append (n := 3) T.el22_encE rfl rfl rfl hH168 rfl (Heap.rdw T.el22_encE hH168 (n := 0) rfl) (by first | omega | (simp only [List.length_append, List.length_cons, List.length_nil]; omega)) (fun u169 lo171 hi172 w170 hH173 => ?_)
          refine ops_nil ?_
          refine ⟨trivial, ?_⟩
          refine any_takes [9] (by kernel_rfl) trivial _ _ _ (by kernel_rfl) ?_
          refine qs_y rfl rfl (yv_field T.f24_0 rfl) ?_
          refine qs_nil ?_
          refine any_all [10] (by kernel_rfl) rfl ?_
          refine ⟨⟨_, rfl, ?_⟩, trivial⟩
          ·skip
           refine op_store (n := 6) (j := 0) (us := [u169]) rfl rfl hH173 rfl T.sz22 (SliceIs.cells (Heap.rdw T.el22_encE hH173 (n := 3) rfl).is) rfl rfl (SliceIs.one (Heap.rdw T.el22_encE hH173 (n := 3) rfl).is) (fun w174 hH175 => ?_)
           refine ops_nil ?_
           refine ⟨trivial, ?_⟩
           refine any_done (by kernel_rfl) ?_
           refine thn_n (seq (region (oM hH175 rfl rfl (oM hH175 rfl rfl ?_))))
           refine ops_y hH175 rfl rfl (yv_shr32u rfl rfl (by omega)) ?_
           refine ops_y hH175 rfl rfl (yv_and32u rfl rfl) ?_
           refine ops_y hH175 rfl rfl (yv_eql rfl rfl) ?_
           refine ops_nil (thn_n ?_)
           by_cases hc176 : (and32 (o2 / 2 ^ ((k : Int)).toNat)) = 1
           ·skip
            have hp2 : bit32 o2 k = true := dT ‹_›
            refine cond_t rfl (dT hc176) ?_
            refine region_draw (fun w' => True) T.mixed (fun w177 hr178 => ?_)
            have hH179 := hH175.redrawn hr178
            refine any_takes [0, 2, 4] (by kernel_rfl) trivial _ _ _ (by kernel_rfl) ?_
            refine qs_y rfl rfl (yv_field T.f24_0 rfl) ?_
            refine qs_y rfl rfl (yv_field T.f24_0 rfl) ?_
            refine qM rfl rfl rfl (qs_nil ?_)
            refine any_all [1, 3] (by kernel_rfl) rfl ?_
            refine ⟨⟨_, rfl, ?_⟩, ⟨_, rfl, ?_⟩, trivial⟩
            ·skip
             refine ops_y hH179 rfl rfl (yv_load T.one22 rfl (fun _ hw => Heap.cellw hw (n := 5) rfl rfl)) ?_
             refine ops_nil ?_
             refine ⟨trivial, ?_⟩
             refine any_all [3] (by kernel_rfl) rfl ?_
             refine ⟨⟨_, rfl, ?_⟩, trivial⟩
             ·skip
              refine ops_y hH179 rfl rfl (yv_load T.one22 rfl (fun _ hw => Heap.cellw hw (n := 7) rfl rfl)) ?_
              refine ops_nil ?_
              refine ⟨trivial, ?_⟩
              refine any_takes [5] (by kernel_rfl) trivial _ _ _ (by kernel_rfl) ?_
              refine qs_y rfl rfl (yv_index T.sl22 rfl rfl (h0.now hH179 (n := 8) rfl).is (by omega)) ?_
              refine qs_nil ?_
              refine any_all [6] (by kernel_rfl) rfl ?_
              refine ⟨⟨_, rfl, ?_⟩, trivial⟩
              ·skip
               refine ops_y hH179 rfl rfl (yv_loadA (cs := [(.int .i64 ((nth l (k : Int)).n)), (.int .i64 ((nth l (k : Int)).d)), (.int .i64 ((nth l (k : Int)).f)), (.int .i64 ((nth l (k : Int)).t)), (.int .i64 ((nth l (k : Int)).a))]) T.agg38 rfl rfl (fun _ hw => Rd.atA (h0.now hw (n := 8) rfl) (i := (k : Int)) (by omega))) ?_
               refine ops_nil ?_
               refine ⟨trivial, ?_⟩
               refine any_all [7] (by kernel_rfl) rfl ?_
               refine ⟨⟨_, rfl, ?_⟩, trivial⟩
               ·skip
                refine op_lit (us := [(0, (.agg #[(.int .i64 ((nth l (k : Int)).n)), (.int .i64 ((nth l (k : Int)).d)), (.int .i64 ((nth l (k : Int)).f)), (.int .i64 ((nth l (k : Int)).t)), (.int .i64 ((nth l (k : Int)).a))]))]) T.el22_encE [(nth l (k : Int))] rfl (by decide) rfl (fun a ha => by simp [ha.ev (show ev _ (.tmp 78) = some _ from rfl)]) (fun w => by kernel_rfl) hH179 (fun u180 lo182 hi183 w181 hH184 => ?_)
                refine ops_nil ?_
                refine ⟨trivial, ?_⟩
                refine any_all [8] (by kernel_rfl) rfl ?_
                refine ⟨⟨_, rfl, ?_⟩, trivial⟩
                ·skip
                 refine op_append (n := 3) T.el22_encE rfl rfl rfl hH184 rfl (Heap.rdw T.el22_encE hH184 (n := 0) rfl) (by first | omega | (simp only [List.length_append, List.length_cons, List.length_nil]; omega)) (fun u185 lo187 hi188 w186 hH189 => ?_)
                 refine ops_nil ?_
                 refine ⟨trivial, ?_⟩
                 refine any_takes [9] (by kernel_rfl) trivial _ _ _ (by kernel_rfl) ?_
                 refine qs_y rfl rfl (yv_field T.f24_0 rfl) ?_
                 refine qs_nil ?_
                 refine any_all [10] (by kernel_rfl) rfl ?_
                 refine ⟨⟨_, rfl, ?_⟩, trivial⟩
                 ·skip
                  refine op_store (n := 6) (j := 0) (us := [u185]) rfl rfl hH189 rfl T.sz22 (SliceIs.cells (Heap.rdw T.el22_encE hH189 (n := 3) rfl).is) rfl rfl (SliceIs.one (Heap.rdw T.el22_encE hH189 (n := 3) rfl).is) (fun w190 hH191 => ?_)
                  refine ops_nil ?_
                  refine ⟨trivial, ?_⟩
                  refine any_done (by kernel_rfl) ?_
                  refine blk_n (thn_n (region (oM hH191 rfl rfl ?_)))
                  refine ops_y hH191 rfl rfl (yv_add rfl rfl (by omega)) ?_
                  refine oA hH191 rfl rfl (ops_nil ?_)
                  have hH192 := (hH191.sub (sC (sC sR)))
                  refine lp_n (k + 1, u169, lo171, hi172, u185, lo187, hi188, v_b13, lo_b13, hi_b13) (uC rfl (uC rfl (uC rfl (uC rfl (uC rfl (uC rfl (uC rfl (uC rfl (uC rfl (uC rfl (Sub.nil _))))))))))) ?_ ?_
                  ·exact ⟨(Heap.recast (n := 0) (Heap.recast (n := 1) (Heap.recast (n := 2) hH192 rfl ((by first | exact B.sel_t hp1 | exact B.sel_f hp1))) rfl ((by first | exact B.sel_t hp2 | exact B.sel_f hp2))) rfl ((by first | exact B.sel_t hq1 | exact B.sel_f hq1))), by omega⟩
                  ·first | (dsimp only; omega) | (show _ < _; omega)
            ·skip
             refine ops_y hH179 rfl rfl (yv_load T.one22 rfl (fun _ hw => Heap.cellw hw (n := 7) rfl rfl)) ?_
             refine ops_nil ?_
             refine ⟨trivial, ?_⟩
             refine any_takes [5] (by kernel_rfl) trivial _ _ _ (by kernel_rfl) ?_
             refine qs_y rfl rfl (yv_index T.sl22 rfl rfl (h0.now hH179 (n := 8) rfl).is (by omega)) ?_
             refine qs_nil ?_
             refine any_all [1, 6] (by kernel_rfl) rfl ?_
             refine ⟨⟨_, rfl, ?_⟩, ⟨_, rfl, ?_⟩, trivial⟩
             ·skip
              refine ops_y hH179 rfl rfl (yv_load T.one22 rfl (fun _ hw => Heap.cellw hw (n := 5) rfl rfl)) ?_
              refine ops_nil ?_
              refine ⟨trivial, ?_⟩
              refine any_all [6] (by kernel_rfl) rfl ?_
              refine ⟨⟨_, rfl, ?_⟩, trivial⟩
              ·skip
               refine ops_y hH179 rfl rfl (yv_loadA (cs := [(.int .i64 ((nth l (k : Int)).n)), (.int .i64 ((nth l (k : Int)).d)), (.int .i64 ((nth l (k : Int)).f)), (.int .i64 ((nth l (k : Int)).t)), (.int .i64 ((nth l (k : Int)).a))]) T.agg38 rfl rfl (fun _ hw => Rd.atA (h0.now hw (n := 8) rfl) (i := (k : Int)) (by omega))) ?_
               refine ops_nil ?_
               refine ⟨trivial, ?_⟩
               refine any_all [7] (by kernel_rfl) rfl ?_
               refine ⟨⟨_, rfl, ?_⟩, trivial⟩
               ·skip
                refine op_lit (us := [(0, (.agg #[(.int .i64 ((nth l (k : Int)).n)), (.int .i64 ((nth l (k : Int)).d)), (.int .i64 ((nth l (k : Int)).f)), (.int .i64 ((nth l (k : Int)).t)), (.int .i64 ((nth l (k : Int)).a))]))]) T.el22_encE [(nth l (k : Int))] rfl (by decide) rfl (fun a ha => by simp [ha.ev (show ev _ (.tmp 78) = some _ from rfl)]) (fun w => by kernel_rfl) hH179 (fun u193 lo195 hi196 w194 hH197 => ?_)
                refine ops_nil ?_
                refine ⟨trivial, ?_⟩
                refine any_all [8] (by kernel_rfl) rfl ?_
                refine ⟨⟨_, rfl, ?_⟩, trivial⟩
                ·skip
                 refine op_append (n := 3) T.el22_encE rfl rfl rfl hH197 rfl (Heap.rdw T.el22_encE hH197 (n := 0) rfl) (by first | omega | (simp only [List.length_append, List.length_cons, List.length_nil]; omega)) (fun u198 lo200 hi201 w199 hH202 => ?_)
                 refine ops_nil ?_
                 refine ⟨trivial, ?_⟩
                 refine any_takes [9] (by kernel_rfl) trivial _ _ _ (by kernel_rfl) ?_
                 refine qs_y rfl rfl (yv_field T.f24_0 rfl) ?_
                 refine qs_nil ?_
                 refine any_all [10] (by kernel_rfl) rfl ?_
                 refine ⟨⟨_, rfl, ?_⟩, trivial⟩
                 ·skip
                  refine op_store (n := 6) (j := 0) (us := [u198]) rfl rfl hH202 rfl T.sz22 (SliceIs.cells (Heap.rdw T.el22_encE hH202 (n := 3) rfl).is) rfl rfl (SliceIs.one (Heap.rdw T.el22_encE hH202 (n := 3) rfl).is) (fun w203 hH204 => ?_)
                  refine ops_nil ?_
                  refine ⟨trivial, ?_⟩
                  refine any_done (by kernel_rfl) ?_
                  refine blk_n (thn_n (region (oM hH204 rfl rfl ?_)))
                  refine ops_y hH204 rfl rfl (yv_add rfl rfl (by omega)) ?_
                  refine oA hH204 rfl rfl (ops_nil ?_)
                  have hH205 := (hH204.sub (sC (sC sR)))
                  refine lp_n (k + 1, u169, lo171, hi172, u198, lo200, hi201, v_b13, lo_b13, hi_b13) (uC rfl (uC rfl (uC rfl (uC rfl (uC rfl (uC rfl (uC rfl (uC rfl (uC rfl (uC rfl (Sub.nil _))))))))))) ?_ ?_
                  ·exact ⟨(Heap.recast (n := 0) (Heap.recast (n := 1) (Heap.recast (n := 2) hH205 rfl ((by first | exact B.sel_t hp1 | exact B.sel_f hp1))) rfl ((by first | exact B.sel_t hp2 | exact B.sel_f hp2))) rfl ((by first | exact B.sel_t hq1 | exact B.sel_f hq1))), by omega⟩
                  ·first | (dsimp only; omega) | (show _ < _; omega)
             ·skip
              refine ops_y hH179 rfl rfl (yv_loadA (cs := [(.int .i64 ((nth l (k : Int)).n)), (.int .i64 ((nth l (k : Int)).d)), (.int .i64 ((nth l (k : Int)).f)), (.int .i64 ((nth l (k : Int)).t)), (.int .i64 ((nth l (k : Int)).a))]) T.agg38 rfl rfl (fun _ hw => Rd.atA (h0.now hw (n := 8) rfl) (i := (k : Int)) (by omega))) ?_
              refine ops_nil ?_
              refine ⟨trivial, ?_⟩
              refine any_all [1, 7] (by kernel_rfl) rfl ?_
              refine ⟨⟨_, rfl, ?_⟩, ⟨_, rfl, ?_⟩, trivial⟩
              ·skip
               refine ops_y hH179 rfl rfl (yv_load T.one22 rfl (fun _ hw => Heap.cellw hw (n := 5) rfl rfl)) ?_
               refine ops_nil ?_
               refine ⟨trivial, ?_⟩
               refine any_all [7] (by kernel_rfl) rfl ?_
               refine ⟨⟨_, rfl, ?_⟩, trivial⟩
               ·skip
                refine op_lit (us := [(0, (.agg #[(.int .i64 ((nth l (k : Int)).n)), (.int .i64 ((nth l (k : Int)).d)), (.int .i64 ((nth l (k : Int)).f)), (.int .i64 ((nth l (k : Int)).t)), (.int .i64 ((nth l (k : Int)).a))]))]) T.el22_encE [(nth l (k : Int))] rfl (by decide) rfl (fun a ha => by simp [ha.ev (show ev _ (.tmp 78) = some _ from rfl)]) (fun w => by kernel_rfl) hH179 (fun u206 lo208 hi209 w207 hH210 => ?_)
                refine ops_nil ?_
                refine ⟨trivial, ?_⟩
                refine any_all [8] (by kernel_rfl) rfl ?_
                refine ⟨⟨_, rfl, ?_⟩, trivial⟩
                ·skip
                 refine op_append (n := 3) T.el22_encE rfl rfl rfl hH210 rfl (Heap.rdw T.el22_encE hH210 (n := 0) rfl) (by first | omega | (simp only [List.length_append, List.length_cons, List.length_nil]; omega)) (fun u211 lo213 hi214 w212 hH215 => ?_)
                 refine ops_nil ?_
                 refine ⟨trivial, ?_⟩
                 refine any_takes [9] (by kernel_rfl) trivial _ _ _ (by kernel_rfl) ?_
                 refine qs_y rfl rfl (yv_field T.f24_0 rfl) ?_
                 refine qs_nil ?_
                 refine any_all [10] (by kernel_rfl) rfl ?_
                 refine ⟨⟨_, rfl, ?_⟩, trivial⟩
                 ·skip
                  refine op_store (n := 6) (j := 0) (us := [u211]) rfl rfl hH215 rfl T.sz22 (SliceIs.cells (Heap.rdw T.el22_encE hH215 (n := 3) rfl).is) rfl rfl (SliceIs.one (Heap.rdw T.el22_encE hH215 (n := 3) rfl).is) (fun w216 hH217 => ?_)
                  refine ops_nil ?_
                  refine ⟨trivial, ?_⟩
                  refine any_done (by kernel_rfl) ?_
                  refine blk_n (thn_n (region (oM hH217 rfl rfl ?_)))
                  refine ops_y hH217 rfl rfl (yv_add rfl rfl (by omega)) ?_
                  refine oA hH217 rfl rfl (ops_nil ?_)
                  have hH218 := (hH217.sub (sC (sC sR)))
                  refine lp_n (k + 1, u169, lo171, hi172, u211, lo213, hi214, v_b13, lo_b13, hi_b13) (uC rfl (uC rfl (uC rfl (uC rfl (uC rfl (uC rfl (uC rfl (uC rfl (uC rfl (uC rfl (Sub.nil _))))))))))) ?_ ?_
                  ·exact ⟨(Heap.recast (n := 0) (Heap.recast (n := 1) (Heap.recast (n := 2) hH218 rfl ((by first | exact B.sel_t hp1 | exact B.sel_f hp1))) rfl ((by first | exact B.sel_t hp2 | exact B.sel_f hp2))) rfl ((by first | exact B.sel_t hq1 | exact B.sel_f hq1))), by omega⟩
                  ·first | (dsimp only; omega) | (show _ < _; omega)
              ·skip
               refine op_lit (us := [(0, (.agg #[(.int .i64 ((nth l (k : Int)).n)), (.int .i64 ((nth l (k : Int)).d)), (.int .i64 ((nth l (k : Int)).f)), (.int .i64 ((nth l (k : Int)).t)), (.int .i64 ((nth l (k : Int)).a))]))]) T.el22_encE [(nth l (k : Int))] rfl (by decide) rfl (fun a ha => by simp [ha.ev (show ev _ (.tmp 78) = some _ from rfl)]) (fun w => by kernel_rfl) hH179 (fun u219 lo221 hi222 w220 hH223 => ?_)
               refine ops_nil ?_
               refine ⟨trivial, ?_⟩
               refine any_all [1] (by kernel_rfl) rfl ?_
               refine ⟨⟨_, rfl, ?_⟩, trivial⟩
               ·skip
                refine ops_y hH223 rfl rfl (yv_load T.one22 rfl (fun _ hw => Heap.cellw hw (n := 6) rfl rfl)) ?_
                refine ops_nil ?_
                refine ⟨trivial, ?_⟩
                refine any_all [8] (by kernel_rfl) rfl ?_
                refine ⟨⟨_, rfl, ?_⟩, trivial⟩
                ·skip
                 refine op_append (n := 3) T.el22_encE rfl rfl rfl hH223 rfl (Heap.rdw T.el22_encE hH223 (n := 0) rfl) (by first | omega | (simp only [List.length_append, List.length_cons, List.length_nil]; omega)) (fun u224 lo226 hi227 w225 hH228 => ?_)
                 refine ops_nil ?_
                 refine ⟨trivial, ?_⟩
                 refine any_takes [9] (by kernel_rfl) trivial _ _ _ (by kernel_rfl) ?_
                 refine qs_y rfl rfl (yv_field T.f24_0 rfl) ?_
                 refine qs_nil ?_
                 refine any_all [10] (by kernel_rfl) rfl ?_
                 refine ⟨⟨_, rfl, ?_⟩, trivial⟩
                 ·skip
                  refine op_store (n := 6) (j := 0) (us := [u224]) rfl rfl hH228 rfl T.sz22 (SliceIs.cells (Heap.rdw T.el22_encE hH228 (n := 3) rfl).is) rfl rfl (SliceIs.one (Heap.rdw T.el22_encE hH228 (n := 3) rfl).is) (fun w229 hH230 => ?_)
                  refine ops_nil ?_
                  refine ⟨trivial, ?_⟩
                  refine any_done (by kernel_rfl) ?_
                  refine blk_n (thn_n (region (oM hH230 rfl rfl ?_)))
                  refine ops_y hH230 rfl rfl (yv_add rfl rfl (by omega)) ?_
                  refine oA hH230 rfl rfl (ops_nil ?_)
                  have hH231 := (hH230.sub (sC (sC sR)))
                  refine lp_n (k + 1, u169, lo171, hi172, u224, lo226, hi227, v_b13, lo_b13, hi_b13) (uC rfl (uC rfl (uC rfl (uC rfl (uC rfl (uC rfl (uC rfl (uC rfl (uC rfl (uC rfl (Sub.nil _))))))))))) ?_ ?_
                  ·exact ⟨(Heap.recast (n := 0) (Heap.recast (n := 1) (Heap.recast (n := 2) hH231 rfl ((by first | exact B.sel_t hp1 | exact B.sel_f hp1))) rfl ((by first | exact B.sel_t hp2 | exact B.sel_f hp2))) rfl ((by first | exact B.sel_t hq1 | exact B.sel_f hq1))), by omega⟩
                  ·first | (dsimp only; omega) | (show _ < _; omega)
           ·skip
            have hp2 : ¬ bit32 o2 k = true := fun h => absurd (of_decide_eq_true h) ‹_›
            refine cond_f rfl (dF hc176) ?_
            refine skip (blk_n (thn_n (region (oM hH175 rfl rfl ?_))))
            refine ops_y hH175 rfl rfl (yv_add rfl rfl (by omega)) ?_
            refine oA hH175 rfl rfl (ops_nil ?_)
            have hH232 := (hH175.sub (sC sR))
            refine lp_n (k + 1, u169, lo171, hi172, v_b12, lo_b12, hi_b12, v_b13, lo_b13, hi_b13) (uC rfl (uC rfl (uC rfl (uC rfl (uC rfl (uC rfl (uC rfl (uC rfl (uC rfl (uC rfl (Sub.nil _))))))))))) ?_ ?_
            ·exact ⟨(Heap.recast (n := 0) (Heap.recast (n := 1) (Heap.recast (n := 2) hH232 rfl ((by first | exact B.sel_t hp1 | exact B.sel_f hp1))) rfl ((by first | exact B.sel_t hp2 | exact B.sel_f hp2))) rfl ((by first | exact B.sel_t hq1 | exact B.sel_f hq1))), by omega⟩
            ·first | (dsimp only; omega) | (show _ < _; omega)
       ·skip
        refine op_lit (us := [(0, (.agg #[(.int .i64 ((nth l (k : Int)).n)), (.int .i64 ((nth l (k : Int)).d)), (.int .i64 ((nth l (k : Int)).f)), (.int .i64 ((nth l (k : Int)).t)), (.int .i64 ((nth l (k : Int)).a))]))]) T.el22_encE [(nth l (k : Int))] rfl (by decide) rfl (fun a ha => by simp [ha.ev (show ev _ (.tmp 53) = some _ from rfl)]) (fun w => by kernel_rfl) hH25 (fun u233 lo235 hi236 w234 hH237 => ?_)
        refine ops_nil ?_
        refine ⟨trivial, ?_⟩
        refine any_all [1] (by kernel_rfl) rfl ?_
        refine ⟨⟨_, rfl, ?_⟩, trivial⟩
        ·skip
         refine ops_y hH237 rfl rfl (yv_load T.one22 rfl (fun _ hw => Heap.cellw hw (n := 6) rfl rfl)) ?_
         refine ops_nil ?_
         refine ⟨trivial, ?_⟩
         refine any_all [8] (by kernel_rfl) rfl ?_
         refine ⟨⟨_, rfl, ?_⟩, trivial⟩
         ·skip
          refine op_append (n := 3) T.el22_encE rfl rfl rfl hH237 rfl (Heap.rdw T.el22_encE hH237 (n := 0) rfl) (by first | omega | (simp only [List.length_append, List.length_cons, List.length_nil]; omega)) (fun u238 lo240 hi241 w239 hH242 => ?_)
          refine ops_nil ?_
          refine ⟨trivial, ?_⟩
          refine any_takes [9] (by kernel_rfl) trivial _ _ _ (by kernel_rfl) ?_
          refine qs_y rfl rfl (yv_field T.f24_0 rfl) ?_
          refine qs_nil ?_
          refine any_all [10] (by kernel_rfl) rfl ?_
          refine ⟨⟨_, rfl, ?_⟩, trivial⟩
          ·skip
           refine op_store (n := 6) (j := 0) (us := [u238]) rfl rfl hH242 rfl T.sz22 (SliceIs.cells (Heap.rdw T.el22_encE hH242 (n := 3) rfl).is) rfl rfl (SliceIs.one (Heap.rdw T.el22_encE hH242 (n := 3) rfl).is) (fun w243 hH244 => ?_)
           refine ops_nil ?_
           refine ⟨trivial, ?_⟩
           refine any_done (by kernel_rfl) ?_
           refine thn_n (seq (region (oM hH244 rfl rfl (oM hH244 rfl rfl ?_))))
           refine ops_y hH244 rfl rfl (yv_shr32u rfl rfl (by omega)) ?_
           refine ops_y hH244 rfl rfl (yv_and32u rfl rfl) ?_
           refine ops_y hH244 rfl rfl (yv_eql rfl rfl) ?_
           refine ops_nil (thn_n ?_)
           by_cases hc245 : (and32 (o2 / 2 ^ ((k : Int)).toNat)) = 1
           ·skip
            have hp2 : bit32 o2 k = true := dT ‹_›
            refine cond_t rfl (dT hc245) ?_
            refine region_draw (fun w' => True) T.mixed (fun w246 hr247 => ?_)
            have hH248 := hH244.redrawn hr247
            refine any_takes [0, 2, 4] (by kernel_rfl) trivial _ _ _ (by kernel_rfl) ?_
            refine qs_y rfl rfl (yv_field T.f24_0 rfl) ?_
            refine qs_y rfl rfl (yv_field T.f24_0 rfl) ?_
            refine qM rfl rfl rfl (qs_nil ?_)
            refine any_all [1, 3] (by kernel_rfl) rfl ?_
            refine ⟨⟨_, rfl, ?_⟩, ⟨_, rfl, ?_⟩, trivial⟩
            ·skip
             refine ops_y hH248 rfl rfl (yv_load T.one22 rfl (fun _ hw => Heap.cellw hw (n := 5) rfl rfl)) ?_
             refine ops_nil ?_
             refine ⟨trivial, ?_⟩
             refine any_all [3] (by kernel_rfl) rfl ?_
             refine ⟨⟨_, rfl, ?_⟩, trivial⟩
             ·skip
              refine ops_y hH248 rfl rfl (yv_load T.one22 rfl (fun _ hw => Heap.cellw hw (n := 7) rfl rfl)) ?_
              refine ops_nil ?_
              refine ⟨trivial, ?_⟩
              refine any_takes [5] (by kernel_rfl) trivial _ _ _ (by kernel_rfl) ?_
              refine qs_y rfl rfl (yv_index T.sl22 rfl rfl (h0.now hH248 (n := 8) rfl).is (by omega)) ?_
              refine qs_nil ?_
              refine any_all [6] (by kernel_rfl) rfl ?_
              refine ⟨⟨_, rfl, ?_⟩, trivial⟩
              ·skip
               refine ops_y hH248 rfl rfl (yv_loadA (cs := [(.int .i64 ((nth l (k : Int)).n)), (.int .i64 ((nth l (k : Int)).d)), (.int .i64 ((nth l (k : Int)).f)), (.int .i64 ((nth l (k : Int)).t)), (.int .i64 ((nth l (k : Int)).a))]) T.agg38 rfl rfl (fun _ hw => Rd.atA (h0.now hw (n := 8) rfl) (i := (k : Int)) (by omega))) ?_
               refine ops_nil ?_
               refine ⟨trivial, ?_⟩
               refine any_all [7] (by kernel_rfl) rfl ?_
               refine ⟨⟨_, rfl, ?_⟩, trivial⟩
               ·skip
                refine op_lit (us := [(0, (.agg #[(.int .i64 ((nth l (k : Int)).n)), (.int .i64 ((nth l (k : Int)).d)), (.int .i64 ((nth l (k : Int)).f)), (.int .i64 ((nth l (k : Int)).t)), (.int .i64 ((nth l (k : Int)).a))]))]) T.el22_encE [(nth l (k : Int))] rfl (by decide) rfl (fun a ha => by simp [ha.ev (show ev _ (.tmp 78) = some _ from rfl)]) (fun w => by kernel_rfl) hH248 (fun u249 lo251 hi252 w250 hH253 => ?_)
                refine ops_nil ?_
                refine ⟨trivial, ?_⟩
                refine any_all [8] (by kernel_rfl) rfl ?_
                refine ⟨⟨_, rfl, ?_⟩, trivial⟩
                ·skip
                 refine op_append (n := 3) T.el22_encE rfl rfl rfl hH253 rfl (Heap.rdw T.el22_encE hH253 (n := 0) rfl) (by first | omega | (simp only [List.length_append, List.length_cons, List.length_nil]; omega)) (fun u254 lo256 hi257 w255 hH258 => ?_)
                 refine ops_nil ?_
                 refine ⟨trivial, ?_⟩
                 refine any_takes [9] (by kernel_rfl) trivial _ _ _ (by kernel_rfl) ?_
                 refine qs_y rfl rfl (yv_field T.f24_0 rfl) ?_
                 refine qs_nil ?_
                 refine any_all [10] (by kernel_rfl) rfl ?_
                 refine ⟨⟨_, rfl, ?_⟩, trivial⟩
                 ·skip
                  refine op_store (n := 6) (j := 0) (us := [u254]) rfl rfl hH258 rfl T.sz22 (SliceIs.cells (Heap.rdw T.el22_encE hH258 (n := 3) rfl).is) rfl rfl (SliceIs.one (Heap.rdw T.el22_encE hH258 (n := 3) rfl).is) (fun w259 hH260 => ?_)
                  refine ops_nil ?_
                  refine ⟨trivial, ?_⟩
                  refine any_done (by kernel_rfl) ?_
                  refine blk_n (thn_n (region (oM hH260 rfl rfl ?_)))
                  refine ops_y hH260 rfl rfl (yv_add rfl rfl (by omega)) ?_
                  refine oA hH260 rfl rfl (ops_nil ?_)
                  have hH261 := (hH260.sub (sC (sC sR)))
                  refine lp_n (k + 1, u238, lo240, hi241, u254, lo256, hi257, v_b13, lo_b13, hi_b13) (uC rfl (uC rfl (uC rfl (uC rfl (uC rfl (uC rfl (uC rfl (uC rfl (uC rfl (uC rfl (Sub.nil _))))))))))) ?_ ?_
                  ·exact ⟨(Heap.recast (n := 0) (Heap.recast (n := 1) (Heap.recast (n := 2) hH261 rfl ((by first | exact B.sel_t hp1 | exact B.sel_f hp1))) rfl ((by first | exact B.sel_t hp2 | exact B.sel_f hp2))) rfl ((by first | exact B.sel_t hq1 | exact B.sel_f hq1))), by omega⟩
                  ·first | (dsimp only; omega) | (show _ < _; omega)
            ·skip
             refine ops_y hH248 rfl rfl (yv_load T.one22 rfl (fun _ hw => Heap.cellw hw (n := 7) rfl rfl)) ?_
             refine ops_nil ?_
             refine ⟨trivial, ?_⟩
             refine any_takes [5] (by kernel_rfl) trivial _ _ _ (by kernel_rfl) ?_
             refine qs_y rfl rfl (yv_index T.sl22 rfl rfl (h0.now hH248 (n := 8) rfl).is (by omega)) ?_
             refine qs_nil ?_
             refine any_all [1, 6] (by kernel_rfl) rfl ?_
             refine ⟨⟨_, rfl, ?_⟩, ⟨_, rfl, ?_⟩, trivial⟩
             ·skip
              refine ops_y hH248 rfl rfl (yv_load T.one22 rfl (fun _ hw => Heap.cellw hw (n := 5) rfl rfl)) ?_
              refine ops_nil ?_
              refine ⟨trivial, ?_⟩
              refine any_all [6] (by kernel_rfl) rfl ?_
              refine ⟨⟨_, rfl, ?_⟩, trivial⟩
              ·skip
               refine ops_y hH248 rfl rfl (yv_loadA (cs := [(.int .i64 ((nth l (k : Int)).n)), (.int .i64 ((nth l (k : Int)).d)), (.int .i64 ((nth l (k : Int)).f)), (.int .i64 ((nth l (k : Int)).t)), (.int .i64 ((nth l (k : Int)).a))]) T.agg38 rfl rfl (fun _ hw => Rd.atA (h0.now hw (n := 8) rfl) (i := (k : Int)) (by omega))) ?_
               refine ops_nil ?_
               refine ⟨trivial, ?_⟩
               refine any_all [7] (by kernel_rfl) rfl ?_
               refine ⟨⟨_, rfl, ?_⟩, trivial⟩
               ·skip
                refine op_lit (us := [(0, (.agg #[(.int .i64 ((nth l (k : Int)).n)), (.int .i64 ((nth l (k : Int)).d)), (.int .i64 ((nth l (k : Int)).f)), (.int .i64 ((nth l (k : Int)).t)), (.int .i64 ((nth l (k : Int)).a))]))]) T.el22_encE [(nth l (k : Int))] rfl (by decide) rfl (fun a ha => by simp [ha.ev (show ev _ (.tmp 78) = some _ from rfl)]) (fun w => by kernel_rfl) hH248 (fun u262 lo264 hi265 w263 hH266 => ?_)
                refine ops_nil ?_
                refine ⟨trivial, ?_⟩
                refine any_all [8] (by kernel_rfl) rfl ?_
                refine ⟨⟨_, rfl, ?_⟩, trivial⟩
                ·skip
                 refine op_append (n := 3) T.el22_encE rfl rfl rfl hH266 rfl (Heap.rdw T.el22_encE hH266 (n := 0) rfl) (by first | omega | (simp only [List.length_append, List.length_cons, List.length_nil]; omega)) (fun u267 lo269 hi270 w268 hH271 => ?_)
                 refine ops_nil ?_
                 refine ⟨trivial, ?_⟩
                 refine any_takes [9] (by kernel_rfl) trivial _ _ _ (by kernel_rfl) ?_
                 refine qs_y rfl rfl (yv_field T.f24_0 rfl) ?_
                 refine qs_nil ?_
                 refine any_all [10] (by kernel_rfl) rfl ?_
                 refine ⟨⟨_, rfl, ?_⟩, trivial⟩
                 ·skip
                  refine op_store (n := 6) (j := 0) (us := [u267]) rfl rfl hH271 rfl T.sz22 (SliceIs.cells (Heap.rdw T.el22_encE hH271 (n := 3) rfl).is) rfl rfl (SliceIs.one (Heap.rdw T.el22_encE hH271 (n := 3) rfl).is) (fun w272 hH273 => ?_)
                  refine ops_nil ?_
                  refine ⟨trivial, ?_⟩
                  refine any_done (by kernel_rfl) ?_
                  refine blk_n (thn_n (region (oM hH273 rfl rfl ?_)))
                  refine ops_y hH273 rfl rfl (yv_add rfl rfl (by omega)) ?_
                  refine oA hH273 rfl rfl (ops_nil ?_)
                  have hH274 := (hH273.sub (sC (sC sR)))
                  refine lp_n (k + 1, u238, lo240, hi241, u267, lo269, hi270, v_b13, lo_b13, hi_b13) (uC rfl (uC rfl (uC rfl (uC rfl (uC rfl (uC rfl (uC rfl (uC rfl (uC rfl (uC rfl (Sub.nil _))))))))))) ?_ ?_
                  ·exact ⟨(Heap.recast (n := 0) (Heap.recast (n := 1) (Heap.recast (n := 2) hH274 rfl ((by first | exact B.sel_t hp1 | exact B.sel_f hp1))) rfl ((by first | exact B.sel_t hp2 | exact B.sel_f hp2))) rfl ((by first | exact B.sel_t hq1 | exact B.sel_f hq1))), by omega⟩
                  ·first | (dsimp only; omega) | (show _ < _; omega)
             ·skip
              refine ops_y hH248 rfl rfl (yv_loadA (cs := [(.int .i64 ((nth l (k : Int)).n)), (.int .i64 ((nth l (k : Int)).d)), (.int .i64 ((nth l (k : Int)).f)), (.int .i64 ((nth l (k : Int)).t)), (.int .i64 ((nth l (k : Int)).a))]) T.agg38 rfl rfl (fun _ hw => Rd.atA (h0.now hw (n := 8) rfl) (i := (k : Int)) (by omega))) ?_
              refine ops_nil ?_
              refine ⟨trivial, ?_⟩
              refine any_all [1, 7] (by kernel_rfl) rfl ?_
              refine ⟨⟨_, rfl, ?_⟩, ⟨_, rfl, ?_⟩, trivial⟩
              ·skip
               refine ops_y hH248 rfl rfl (yv_load T.one22 rfl (fun _ hw => Heap.cellw hw (n := 5) rfl rfl)) ?_
               refine ops_nil ?_
               refine ⟨trivial, ?_⟩
               refine any_all [7] (by kernel_rfl) rfl ?_
               refine ⟨⟨_, rfl, ?_⟩, trivial⟩
               ·skip
                refine op_lit (us := [(0, (.agg #[(.int .i64 ((nth l (k : Int)).n)), (.int .i64 ((nth l (k : Int)).d)), (.int .i64 ((nth l (k : Int)).f)), (.int .i64 ((nth l (k : Int)).t)), (.int .i64 ((nth l (k : Int)).a))]))]) T.el22_encE [(nth l (k : Int))] rfl (by decide) rfl (fun a ha => by simp [ha.ev (show ev _ (.tmp 78) = some _ from rfl)]) (fun w => by kernel_rfl) hH248 (fun u275 lo277 hi278 w276 hH279 => ?_)
                refine ops_nil ?_
                refine ⟨trivial, ?_⟩
                refine any_all [8] (by kernel_rfl) rfl ?_
                refine ⟨⟨_, rfl, ?_⟩, trivial⟩
                ·skip
                 refine op_append (n := 3) T.el22_encE rfl rfl rfl hH279 rfl (Heap.rdw T.el22_encE hH279 (n := 0) rfl) (by first | omega | (simp only [List.length_append, List.length_cons, List.length_nil]; omega)) (fun u280 lo282 hi283 w281 hH284 => ?_)
                 refine ops_nil ?_
                 refine ⟨trivial, ?_⟩
                 refine any_takes [9] (by kernel_rfl) trivial _ _ _ (by kernel_rfl) ?_
                 refine qs_y rfl rfl (yv_field T.f24_0 rfl) ?_
                 refine qs_nil ?_
                 refine any_all [10] (by kernel_rfl) rfl ?_
                 refine ⟨⟨_, rfl, ?_⟩, trivial⟩
                 ·skip
                  refine op_store (n := 6) (j := 0) (us := [u280]) rfl rfl hH284 rfl T.sz22 (SliceIs.cells (Heap.rdw T.el22_encE hH284 (n := 3) rfl).is) rfl rfl (SliceIs.one (Heap.rdw T.el22_encE hH284 (n := 3) rfl).is) (fun w285 hH286 => ?_)
                  refine ops_nil ?_
                  refine ⟨trivial, ?_⟩
                  refine any_done (by kernel_rfl) ?_
                  refine blk_n (thn_n (region (oM hH286 rfl rfl ?_)))
                  refine ops_y hH286 rfl rfl (yv_add rfl rfl (by omega)) ?_
                  refine oA hH286 rfl rfl (ops_nil ?_)
                  have hH287 := (hH286.sub (sC (sC sR)))
                  refine lp_n (k + 1, u238, lo240, hi241, u280, lo282, hi283, v_b13, lo_b13, hi_b13) (uC rfl (uC rfl (uC rfl (uC rfl (uC rfl (uC rfl (uC rfl (uC rfl (uC rfl (uC rfl (Sub.nil _))))))))))) ?_ ?_
                  ·exact ⟨(Heap.recast (n := 0) (Heap.recast (n := 1) (Heap.recast (n := 2) hH287 rfl ((by first | exact B.sel_t hp1 | exact B.sel_f hp1))) rfl ((by first | exact B.sel_t hp2 | exact B.sel_f hp2))) rfl ((by first | exact B.sel_t hq1 | exact B.sel_f hq1))), by omega⟩
                  ·first | (dsimp only; omega) | (show _ < _; omega)
              ·skip
               refine op_lit (us := [(0, (.agg #[(.int .i64 ((nth l (k : Int)).n)), (.int .i64 ((nth l (k : Int)).d)), (.int .i64 ((nth l (k : Int)).f)), (.int .i64 ((nth l (k : Int)).t)), (.int .i64 ((nth l (k : Int)).a))]))]) T.el22_encE [(nth l (k : Int))] rfl (by decide) rfl (fun a ha => by simp [ha.ev (show ev _ (.tmp 78) = some _ from rfl)]) (fun w => by kernel_rfl) hH248 (fun u288 lo290 hi291 w289 hH292 => ?_)
               refine ops_nil ?_
               refine ⟨trivial, ?_⟩
               refine any_all [1] (by kernel_rfl) rfl ?_
               refine ⟨⟨_, rfl, ?_⟩, trivial⟩
               ·skip
                refine ops_y hH292 rfl rfl (yv_load T.one22 rfl (fun _ hw => Heap.cellw hw (n := 6) rfl rfl)) ?_
                refine ops_nil ?_
                refine ⟨trivial, ?_⟩
                refine any_all [8] (by kernel_rfl) rfl ?_
                refine ⟨⟨_, rfl, ?_⟩, trivial⟩
                ·skip
                 refine op_append (n := 3) T.el22_encE rfl rfl rfl hH292 rfl (Heap.rdw T.el22_encE hH292 (n := 0) rfl) (by first | omega | (simp only [List.length_append, List.length_cons, List.length_nil]; omega)) (fun u293 lo295 hi296 w294 hH297 => ?_)
                 refine ops_nil ?_
                 refine ⟨trivial, ?_⟩
                 refine any_takes [9] (by kernel_rfl) trivial _ _ _ (by kernel_rfl) ?_
                 refine qs_y rfl rfl (yv_field T.f24_0 rfl) ?_
                 refine qs_nil ?_
                 refine any_all [10] (by kernel_rfl) rfl ?_
                 refine ⟨⟨_, rfl, ?_⟩, trivial⟩
                 ·skip
                  refine op_store (n := 6) (j := 0) (us := [u293]) rfl rfl hH297 rfl T.sz22 (SliceIs.cells (Heap.rdw T.el22_encE hH297 (n := 3) rfl).is) rfl rfl (SliceIs.one (Heap.rdw T.el22_encE hH297 (n := 3) rfl).is) (fun w298 hH299 => ?_)
                  refine ops_nil ?_
                  refine ⟨trivial, ?_⟩
                  refine any_done (by kernel_rfl) ?_
                  refine blk_n (thn_n (region (oM hH299 rfl rfl ?_)))
                  refine ops_y hH299 rfl rfl (yv_add rfl rfl (by omega)) ?_
                  refine oA hH299 rfl rfl (ops_nil ?_)
                  have hH300 := (hH299.sub (sC (sC sR)))
                  refine lp_n (k + 1, u238, lo240, hi241, u293, lo295, hi296, v_b13, lo_b13, hi_b13) (uC rfl (uC rfl (uC rfl (uC rfl (uC rfl (uC rfl (uC rfl (uC rfl (uC rfl (uC rfl (Sub.nil _))))))))))) ?_ ?_
                  ·exact ⟨(Heap.recast (n := 0) (Heap.recast (n := 1) (Heap.recast (n := 2) hH300 rfl ((by first | exact B.sel_t hp1 | exact B.sel_f hp1))) rfl ((by first | exact B.sel_t hp2 | exact B.sel_f hp2))) rfl ((by first | exact B.sel_t hq1 | exact B.sel_f hq1))), by omega⟩
                  ·first | (dsimp only; omega) | (show _ < _; omega)
           ·skip
            have hp2 : ¬ bit32 o2 k = true := fun h => absurd (of_decide_eq_true h) ‹_›
            refine cond_f rfl (dF hc245) ?_
            refine skip (blk_n (thn_n (region (oM hH244 rfl rfl ?_))))
            refine ops_y hH244 rfl rfl (yv_add rfl rfl (by omega)) ?_
            refine oA hH244 rfl rfl (ops_nil ?_)
            have hH301 := (hH244.sub (sC sR))
            refine lp_n (k + 1, u238, lo240, hi241, v_b12, lo_b12, hi_b12, v_b13, lo_b13, hi_b13) (uC rfl (uC rfl (uC rfl (uC rfl (uC rfl (uC rfl (uC rfl (uC rfl (uC rfl (uC rfl (Sub.nil _))))))))))) ?_ ?_
            ·exact ⟨(Heap.recast (n := 0) (Heap.recast (n := 1) (Heap.recast (n := 2) hH301 rfl ((by first | exact B.sel_t hp1 | exact B.sel_f hp1))) rfl ((by first | exact B.sel_t hp2 | exact B.sel_f hp2))) rfl ((by first | exact B.sel_t hq1 | exact B.sel_f hq1))), by omega⟩
            ·first | (dsimp only; omega) | (show _ < _; omega)
    ·skip
     have hp1 : ¬ bit32 o1 k = true := fun h => absurd (of_decide_eq_true h) ‹_›
     have hq1 : nbit32 o1 k = true := by unfold nbit32; rw [Bool.eq_false_iff.2 hp1]; rfl
     refine cond_f rfl (dF hc22) ?_
     refine region_draw (fun w' => True) T.mixed (fun w302 hr303 => ?_)
     have hH304 := hH20.redrawn hr303
     refine any_takes [0, 2, 4] (by kernel_rfl) trivial _ _ _ (by kernel_rfl) ?_
     refine qs_y rfl rfl (yv_field T.f24_0 rfl) ?_
     refine qs_y rfl rfl (yv_field T.f24_0 rfl) ?_
     refine qM rfl rfl rfl (qs_nil ?_)
     refine any_all [1, 3] (by kernel_rfl) rfl ?_
     refine ⟨⟨_, rfl, ?_⟩, ⟨_, rfl, ?_⟩, trivial⟩
     ·skip
      refine ops_y hH304 rfl rfl (yv_load T.one22 rfl (fun _ hw => Heap.cellw hw (n := 3) rfl rfl)) ?_
      refine ops_nil ?_
      refine ⟨trivial, ?_⟩
      refine any_all [3] (by kernel_rfl) rfl ?_
      refine ⟨⟨_, rfl, ?_⟩, trivial⟩
      ·skip
       refine ops_y hH304 rfl rfl (yv_load T.one22 rfl (fun _ hw => Heap.cellw hw (n := 6) rfl rfl)) ?_
       refine ops_nil ?_
       refine ⟨trivial, ?_⟩
       refine any_takes [5] (by kernel_rfl) trivial _ _ _ (by kernel_rfl) ?_
       refine qs_y rfl rfl (yv_index T.sl22 rfl rfl (h0.now hH304 (n := 7) rfl).is (by omega)) ?_
       refine qs_nil ?_
       refine any_all [6] (by kernel_rfl) rfl ?_
       refine ⟨⟨_, rfl, ?_⟩, trivial⟩
       ·skip
        refine ops_y hH304 rfl rfl (yv_loadA (cs := [(.int .i64 ((nth l (k : Int)).n)), (.int .i64 ((nth l (k : Int)).d)), (.int .i64 ((nth l (k : Int)).f)), (.int .i64 ((nth l (k : Int)).t)), (.int .i64 ((nth l (k : Int)).a))]) T.agg38 rfl rfl (fun _ hw => Rd.atA (h0.now hw (n := 7) rfl) (i := (k : Int)) (by omega))) ?_
        refine ops_nil ?_
        refine ⟨trivial, ?_⟩
        refine any_all [7] (by kernel_rfl) rfl ?_
        refine ⟨⟨_, rfl, ?_⟩, trivial⟩
        ·skip
         refine op_lit (us := [(0, (.agg #[(.int .i64 ((nth l (k : Int)).n)), (.int .i64 ((nth l (k : Int)).d)), (.int .i64 ((nth l (k : Int)).f)), (.int .i64 ((nth l (k : Int)).t)), (.int .i64 ((nth l (k : Int)).a))]))]) T.el22_encE [(nth l (k : Int))] rfl (by decide) rfl (fun a ha => by simp [ha.ev (show ev _ (.tmp 63) = some _ from rfl)]) (fun w => by kernel_rfl) hH304 (fun u305 lo307 hi308 w306 hH309 => ?_)
         refine ops_nil ?_
         refine ⟨trivial, ?_⟩
         refine any_all [8] (by kernel_rfl) rfl ?_
         refine ⟨⟨_, rfl, ?_⟩, trivial⟩
         ·skip
          refine op_append (n := 1) T.el22_encE rfl rfl rfl hH309 rfl (Heap.rdw T.el22_encE hH309 (n := 0) rfl) (by first | omega | (simp only [List.length_append, List.length_cons, List.length_nil]; omega)) (fun u310 lo312 hi313 w311 hH314 => ?_)
          refine ops_nil ?_
          refine ⟨trivial, ?_⟩
          refine any_takes [9] (by kernel_rfl) trivial _ _ _ (by kernel_rfl) ?_
          refine qs_y rfl rfl (yv_field T.f24_0 rfl) ?_
          refine qs_nil ?_
          refine any_all [10] (by kernel_rfl) rfl ?_
          refine ⟨⟨_, rfl, ?_⟩, trivial⟩
          ·skip
           refine op_store (n := 4) (j := 0) (us := [u310]) rfl rfl hH314 rfl T.sz22 (SliceIs.cells (Heap.rdw T.el22_encE hH314 (n := 1) rfl).is) rfl rfl (SliceIs.one (Heap.rdw T.el22_encE hH314 (n := 1) rfl).is) (fun w315 hH316 => ?_)
           refine ops_nil ?_
           refine ⟨trivial, ?_⟩
           refine any_done (by kernel_rfl) ?_
           refine thn_n (seq (region (oM hH316 rfl rfl (oM hH316 rfl rfl ?_))))
           refine ops_y hH316 rfl rfl (yv_shr32u rfl rfl (by omega)) ?_
           refine ops_y hH316 rfl rfl (yv_and32u rfl rfl) ?_
           refine ops_y hH316 rfl rfl (yv_eql rfl rfl) ?_
           refine ops_nil (thn_n ?_)
           by_cases hc317 : (and32 (o2 / 2 ^ ((k : Int)).toNat)) = 1
           ·skip
            have hp2 : bit32 o2 k = true := dT ‹_›
            refine cond_t rfl (dT hc317) ?_
            refine region_draw (fun w' => True) T.mixed (fun w318 hr319 => ?_)
            have hH320 := hH316.redrawn hr319
            refine any_takes [0, 2, 4] (by kernel_rfl) trivial _ _ _ (by kernel_rfl) ?_
            refine qs_y rfl rfl (yv_field T.f24_0 rfl) ?_
            refine qs_y rfl rfl (yv_field T.f24_0 rfl) ?_
            refine qM rfl rfl rfl (qs_nil ?_)
            refine any_all [1, 3] (by kernel_rfl) rfl ?_
            refine ⟨⟨_, rfl, ?_⟩, ⟨_, rfl, ?_⟩, trivial⟩
            ·skip
             refine ops_y hH320 rfl rfl (yv_load T.one22 rfl (fun _ hw => Heap.cellw hw (n := 5) rfl rfl)) ?_
             refine ops_nil ?_
             refine ⟨trivial, ?_⟩
             refine any_all [3] (by kernel_rfl) rfl ?_
             refine ⟨⟨_, rfl, ?_⟩, trivial⟩
             ·skip
              refine ops_y hH320 rfl rfl (yv_load T.one22 rfl (fun _ hw => Heap.cellw hw (n := 7) rfl rfl)) ?_
              refine ops_nil ?_
              refine ⟨trivial, ?_⟩
              refine any_takes [5] (by kernel_rfl) trivial _ _ _ (by kernel_rfl) ?_
              refine qs_y rfl rfl (yv_index T.sl22 rfl rfl (h0.now hH320 (n := 8) rfl).is (by omega)) ?_
              refine qs_nil ?_
              refine any_all [6] (by kernel_rfl) rfl ?_
              refine ⟨⟨_, rfl, ?_⟩, trivial⟩
              ·skip
               refine ops_y hH320 rfl rfl (yv_loadA (cs := [(.int .i64 ((nth l (k : Int)).n)), (.int .i64 ((nth l (k : Int)).d)), (.int .i64 ((nth l (k : Int)).f)), (.int .i64 ((nth l (k : Int)).t)), (.int .i64 ((nth l (k : Int)).a))]) T.agg38 rfl rfl (fun _ hw => Rd.atA (h0.now hw (n := 8) rfl) (i := (k : Int)) (by omega))) ?_
               refine ops_nil ?_
               refine ⟨trivial, ?_⟩
               refine any_all [7] (by kernel_rfl) rfl ?_
               refine ⟨⟨_, rfl, ?_⟩, trivial⟩
               ·skip
                refine op_lit (us := [(0, (.agg #[(.int .i64 ((nth l (k : Int)).n)), (.int .i64 ((nth l (k : Int)).d)), (.int .i64 ((nth l (k : Int)).f)), (.int .i64 ((nth l (k : Int)).t)), (.int .i64 ((nth l (k : Int)).a))]))]) T.el22_encE [(nth l (k : Int))] rfl (by decide) rfl (fun a ha => by simp [ha.ev (show ev _ (.tmp 78) = some _ from rfl)]) (fun w => by kernel_rfl) hH320 (fun u321 lo323 hi324 w322 hH325 => ?_)
                refine ops_nil ?_
                refine ⟨trivial, ?_⟩
                refine any_all [8] (by kernel_rfl) rfl ?_
                refine ⟨⟨_, rfl, ?_⟩, trivial⟩
                ·skip
                 refine op_append (n := 3) T.el22_encE rfl rfl rfl hH325 rfl (Heap.rdw T.el22_encE hH325 (n := 0) rfl) (by first | omega | (simp only [List.length_append, List.length_cons, List.length_nil]; omega)) (fun u326 lo328 hi329 w327 hH330 => ?_)
                 refine ops_nil ?_
                 refine ⟨trivial, ?_⟩
                 refine any_takes [9] (by kernel_rfl) trivial _ _ _ (by kernel_rfl) ?_
                 refine qs_y rfl rfl (yv_field T.f24_0 rfl) ?_
                 refine qs_nil ?_
                 refine any_all [10] (by kernel_rfl) rfl ?_
                 refine ⟨⟨_, rfl, ?_⟩, trivial⟩
                 ·skip
                  refine op_store (n := 6) (j := 0) (us := [u326]) rfl rfl hH330 rfl T.sz22 (SliceIs.cells (Heap.rdw T.el22_encE hH330 (n := 3) rfl).is) rfl rfl (SliceIs.one (Heap.rdw T.el22_encE hH330 (n := 3) rfl).is) (fun w331 hH332 => ?_)
                  refine ops_nil ?_
                  refine ⟨trivial, ?_⟩
                  refine any_done (by kernel_rfl) ?_
                  refine blk_n (thn_n (region (oM hH332 rfl rfl ?_)))
                  refine ops_y hH332 rfl rfl (yv_add rfl rfl (by omega)) ?_
                  refine oA hH332 rfl rfl (ops_nil ?_)
                  have hH333 := (hH332.sub (sC (sC sR)))
                  refine lp_n (k + 1, v_b11, lo_b11, hi_b11, u326, lo328, hi329, u310, lo312, hi313) (uC rfl (uC rfl (uC rfl (uC rfl (uC rfl (uC rfl (uC rfl (uC rfl (uC rfl (uC rfl (Sub.nil _))))))))))) ?_ ?_
                  ·exact ⟨(Heap.recast (n := 0) (Heap.recast (n := 1) (Heap.recast (n := 2) hH333 rfl ((by first | exact B.sel_t hp1 | exact B.sel_f hp1))) rfl ((by first | exact B.sel_t hp2 | exact B.sel_f hp2))) rfl ((by first | exact B.sel_t hq1 | exact B.sel_f hq1))), by omega⟩
                  ·first | (dsimp only; omega) | (show _ < _; omega)
            ·skip
             refine ops_y hH320 rfl rfl (yv_load T.one22 rfl (fun _ hw => Heap.cellw hw (n := 7) rfl rfl)) ?_
             refine ops_nil ?_
             refine ⟨trivial, ?_⟩
             refine any_takes [5] (by kernel_rfl) trivial _ _ _ (by kernel_rfl) ?_
             refine qs_y rfl rfl (yv_index T.sl22 rfl rfl (h0.now hH320 (n := 8) rfl).is (by omega)) ?_
             refine qs_nil ?_
             refine any_all [1, 6] (by kernel_rfl) rfl ?_
             refine ⟨⟨_, rfl, ?_⟩, ⟨_, rfl, ?_⟩, trivial⟩
             ·skip
              refine ops_y hH320 rfl rfl (yv_load T.one22 rfl (fun _ hw => Heap.cellw hw (n := 5) rfl rfl)) ?_
              refine ops_nil ?_
              refine ⟨trivial, ?_⟩
              refine any_all [6] (by kernel_rfl) rfl ?_
              refine ⟨⟨_, rfl, ?_⟩, trivial⟩
              ·skip
               refine ops_y hH320 rfl rfl (yv_loadA (cs := [(.int .i64 ((nth l (k : Int)).n)), (.int .i64 ((nth l (k : Int)).d)), (.int .i64 ((nth l (k : Int)).f)), (.int .i64 ((nth l (k : Int)).t)), (.int .i64 ((nth l (k : Int)).a))]) T.agg38 rfl rfl (fun _ hw => Rd.atA (h0.now hw (n := 8) rfl) (i := (k : Int)) (by omega))) ?_
               refine ops_nil ?_
               refine ⟨trivial, ?_⟩
               refine any_all [7] (by kernel_rfl) rfl ?_
               refine ⟨⟨_, rfl, ?_⟩, trivial⟩
               ·skip
                refine op_lit (us := [(0, (.agg #[(.int .i64 ((nth l (k : Int)).n)), (.int .i64 ((nth l (k : Int)).d)), (.int .i64 ((nth l (k : Int)).f)), (.int .i64 ((nth l (k : Int)).t)), (.int .i64 ((nth l (k : Int)).a))]))]) T.el22_encE [(nth l (k : Int))] rfl (by decide) rfl (fun a ha => by simp [ha.ev (show ev _ (.tmp 78) = some _ from rfl)]) (fun w => by kernel_rfl) hH320 (fun u334 lo336 hi337 w335 hH338 => ?_)
                refine ops_nil ?_
                refine ⟨trivial, ?_⟩
                refine any_all [8] (by kernel_rfl) rfl ?_
                refine ⟨⟨_, rfl, ?_⟩, trivial⟩
                ·skip
                 refine op_append (n := 3) T.el22_encE rfl rfl rfl hH338 rfl (Heap.rdw T.el22_encE hH338 (n := 0) rfl) (by first | omega | (simp only [List.length_append, List.length_cons, List.length_nil]; omega)) (fun u339 lo341 hi342 w340 hH343 => ?_)
                 refine ops_nil ?_
                 refine ⟨trivial, ?_⟩
                 refine any_takes [9] (by kernel_rfl) trivial _ _ _ (by kernel_rfl) ?_
                 refine qs_y rfl rfl (yv_field T.f24_0 rfl) ?_
                 refine qs_nil ?_
                 refine any_all [10] (by kernel_rfl) rfl ?_
                 refine ⟨⟨_, rfl, ?_⟩, trivial⟩
                 ·skip
                  refine op_store (n := 6) (j := 0) (us := [u339]) rfl rfl hH343 rfl T.sz22 (SliceIs.cells (Heap.rdw T.el22_encE hH343 (n := 3) rfl).is) rfl rfl (SliceIs.one (Heap.rdw T.el22_encE hH343 (n := 3) rfl).is) (fun w344 hH345 => ?_)
                  refine ops_nil ?_
                  refine ⟨trivial, ?_⟩
                  refine any_done (by kernel_rfl) ?_
                  refine blk_n (thn_n (region (oM hH345 rfl rfl ?_)))
                  refine ops_y hH345 rfl rfl (yv_add rfl rfl (by omega)) ?_
                  refine oA hH345 rfl rfl (ops_nil ?_)
                  have hH346 := (hH345.sub (sC (sC sR)))
                  refine lp_n (k + 1, v_b11, lo_b11, hi_b11, u339, lo341, hi342, u310, lo312, hi313) (uC rfl (uC rfl (uC rfl (uC rfl (uC rfl (uC rfl (uC rfl (uC rfl (uC rfl (uC rfl (Sub.nil _))))))))))) ?_ ?_
                  ·exact ⟨(Heap.recast (n := 0) (Heap.recast (n := 1) (Heap.recast (n := 2) hH346 rfl ((by first | exact B.sel_t hp1 | exact B.sel_f hp1))) rfl ((by first | exact B.sel_t hp2 | exact B.sel_f hp2))) rfl ((by first | exact B.sel_t hq1 | exact B.sel_f hq1))), by omega⟩
                  ·first | (dsimp only; omega) | (show _ < _; omega)
             ·skip
              refine ops_y hH320 rfl rfl (yv_loadA (cs := [(.int .i64 ((nth l (k : Int)).n)), (.int .i64 ((nth l (k : Int)).d)), (.int .i64 ((nth l (k : Int)).f)), (.int .i64 ((nth l (k : Int)).t)), (.int .i64 ((nth l (k : Int)).a))]) T.agg38 rfl rfl (fun _ hw => Rd.atA (h0.now hw (n := 8) rfl) (i := (k : Int)) (by omega))) ?_
              refine ops_nil ?_
              refine ⟨trivial, ?_⟩
              refine any_all [1, 7] (by kernel_rfl) rfl ?_
              refine ⟨⟨_, rfl, ?_⟩, ⟨_, rfl, ?_⟩, trivial⟩
              ·skip
               refine ops_y hH320 rfl rfl (yv_load T.one22 rfl (fun _ hw => Heap.cellw hw (n := 5) rfl rfl)) ?_
               refine ops_nil ?_
               refine ⟨trivial, ?_⟩
               refine any_all [7] (by kernel_rfl) rfl ?_
               refine ⟨⟨_, rfl, ?_⟩, trivial⟩
               ·skip
                refine op_lit (us := [(0, (.agg #[(.int .i64 ((nth l (k : Int)).n)), (.int .i64 ((nth l (k : Int)).d)), (.int .i64 ((nth l (k : Int)).f)), (.int .i64 ((nth l (k : Int)).t)), (.int .i64 ((nth l (k : Int)).a))]))]) T.el22_encE [(nth l (k : Int))] rfl (by decide) rfl (fun a ha => by simp [ha.ev (show ev _ (.tmp 78) = some _ from rfl)]) (fun w => by kernel_rfl) hH320 (fun u347 lo349 hi350 w348 hH351 => ?_)
                refine ops_nil ?_
                refine ⟨trivial, ?_⟩
                refine any_all [8] (by kernel_rfl) rfl ?_
                refine ⟨⟨_, rfl, ?_⟩, trivial⟩
                ·skip
                 refine op_append (n := 3) T.el22_encE rfl rfl rfl hH351 rfl (Heap.rdw T.el22_encE hH351 (n := 0) rfl) (by first | omega | (simp only [List.length_append, List.length_cons, List.length_nil]; omega)) (fun u352 lo354 hi355 w353 hH356 => ?_)
                 refine ops_nil ?_
                 refine ⟨trivial, ?_⟩
                 refine any_takes [9] (by kernel_rfl) trivial _ _ _ (by kernel_rfl) ?_
                 refine qs_y rfl rfl (yv_field T.f24_0 rfl) ?_
                 refine qs_nil ?_
                 refine any_all [10] (by kernel_rfl) rfl ?_
                 refine ⟨⟨_, rfl, ?_⟩, trivial⟩
                 ·skip
                  refine op_store (n := 6) (j := 0) (us := [u352]) rfl rfl hH356 rfl T.sz22 (SliceIs.cells (Heap.rdw T.el22_encE hH356 (n := 3) rfl).is) rfl rfl (SliceIs.one (Heap.rdw T.el22_encE hH356 (n := 3) rfl).is) (fun w357 hH358 => ?_)
                  refine ops_nil ?_
                  refine ⟨trivial, ?_⟩
                  refine any_done (by kernel_rfl) ?_
                  refine blk_n (thn_n (region (oM hH358 rfl rfl ?_)))
                  refine ops_y hH358 rfl rfl (yv_add rfl rfl (by omega)) ?_
                  refine oA hH358 rfl rfl (ops_nil ?_)
                  have hH359 := (hH358.sub (sC (sC sR)))
                  refine lp_n (k + 1, v_b11, lo_b11, hi_b11, u352, lo354, hi355, u310, lo312, hi313) (uC rfl (uC rfl (uC rfl (uC rfl (uC rfl (uC rfl (uC rfl (uC rfl (uC rfl (uC rfl (Sub.nil _))))))))))) ?_ ?_
                  ·exact ⟨(Heap.recast (n := 0) (Heap.recast (n := 1) (Heap.recast (n := 2) hH359 rfl ((by first | exact B.sel_t hp1 | exact B.sel_f hp1))) rfl ((by first | exact B.sel_t hp2 | exact B.sel_f hp2))) rfl ((by first | exact B.sel_t hq1 | exact B.sel_f hq1))), by omega⟩
                  ·first | (dsimp only; omega) | (show _ < _; omega)
              ·skip
               refine op_lit (us := [(0, (.agg #[(.int .i64 ((nth l (k : Int)).n)), (.int .i64 ((nth l (k : Int)).d)), (.int .i64 ((nth l (k : Int)).f)), (.int .i64 ((nth l (k : Int)).t)), (.int .i64 ((nth l (k : Int)).a))]))]) T.el22_encE [(nth l (k : Int))] rfl (by decide) rfl (fun a ha => by simp [ha.ev (show ev _ (.tmp 78) = some _ from rfl)]) (fun w => by kernel_rfl) hH320 (fun u360 lo362 hi363 w361 hH364 => ?_)
               refine ops_nil ?_
               refine ⟨trivial, ?_⟩
               refine any_all [1] (by kernel_rfl) rfl ?_
               refine ⟨⟨_, rfl, ?_⟩, trivial⟩
               ·skip
                refine ops_y hH364 rfl rfl (yv_load T.one22 rfl (fun _ hw => Heap.cellw hw (n := 6) rfl rfl)) ?_
                refine ops_nil ?_
                refine ⟨trivial, ?_⟩
                refine any_all [8] (by kernel_rfl) rfl ?_
                refine ⟨⟨_, rfl, ?_⟩, trivial⟩
                ·skip
                 refine op_append (n := 3) T.el22_encE rfl rfl rfl hH364 rfl (Heap.rdw T.el22_encE hH364 (n := 0) rfl) (by first | omega | (simp only [List.length_append, List.length_cons, List.length_nil]; omega)) (fun u365 lo367 hi368 w366 hH369 => ?_)
                 refine ops_nil ?_
                 refine ⟨trivial, ?_⟩
                 refine any_takes [9] (by kernel_rfl) trivial _ _ _ (by kernel_rfl) ?_
                 refine qs_y rfl rfl (yv_field T.f24_0 rfl) ?_
                 refine qs_nil ?_
                 refine any_all [10] (by kernel_rfl) rfl ?_
                 refine ⟨⟨_, rfl, ?_⟩, trivial⟩
                 ·skip
                  refine op_store (n := 6) (j := 0) (us := [u365]) rfl rfl hH369 rfl T.sz22 (SliceIs.cells (Heap.rdw T.el22_encE hH369 (n := 3) rfl).is) rfl rfl (SliceIs.one (Heap.rdw T.el22_encE hH369 (n := 3) rfl).is) (fun w370 hH371 => ?_)
                  refine ops_nil ?_
                  refine ⟨trivial, ?_⟩
                  refine any_done (by kernel_rfl) ?_
                  refine blk_n (thn_n (region (oM hH371 rfl rfl ?_)))
                  refine ops_y hH371 rfl rfl (yv_add rfl rfl (by omega)) ?_
                  refine oA hH371 rfl rfl (ops_nil ?_)
                  have hH372 := (hH371.sub (sC (sC sR)))
                  refine lp_n (k + 1, v_b11, lo_b11, hi_b11, u365, lo367, hi368, u310, lo312, hi313) (uC rfl (uC rfl (uC rfl (uC rfl (uC rfl (uC rfl (uC rfl (uC rfl (uC rfl (uC rfl (Sub.nil _))))))))))) ?_ ?_
                  ·exact ⟨(Heap.recast (n := 0) (Heap.recast (n := 1) (Heap.recast (n := 2) hH372 rfl ((by first | exact B.sel_t hp1 | exact B.sel_f hp1))) rfl ((by first | exact B.sel_t hp2 | exact B.sel_f hp2))) rfl ((by first | exact B.sel_t hq1 | exact B.sel_f hq1))), by omega⟩
                  ·first | (dsimp only; omega) | (show _ < _; omega)
           ·skip
            have hp2 : ¬ bit32 o2 k = true := fun h => absurd (of_decide_eq_true h) ‹_›
            refine cond_f rfl (dF hc317) ?_
            refine skip (blk_n (thn_n (region (oM hH316 rfl rfl ?_))))
            refine ops_y hH316 rfl rfl (yv_add rfl rfl (by omega)) ?_
            refine oA hH316 rfl rfl (ops_nil ?_)
            have hH373 := (hH316.sub (sC sR))
            refine lp_n (k + 1, v_b11, lo_b11, hi_b11, v_b12, lo_b12, hi_b12, u310, lo312, hi313) (uC rfl (uC rfl (uC rfl (uC rfl (uC rfl (uC rfl (uC rfl (uC rfl (uC rfl (uC rfl (Sub.nil _))))))))))) ?_ ?_
            ·exact ⟨(Heap.recast (n := 0) (Heap.recast (n := 1) (Heap.recast (n := 2) hH373 rfl ((by first | exact B.sel_t hp1 | exact B.sel_f hp1))) rfl ((by first | exact B.sel_t hp2 | exact B.sel_f hp2))) rfl ((by first | exact B.sel_t hq1 | exact B.sel_f hq1))), by omega⟩
            ·first | (dsimp only; omega) | (show _ < _; omega)
     ·skip
      refine ops_y hH304 rfl rfl (yv_load T.one22 rfl (fun _ hw => Heap.cellw hw (n := 6) rfl rfl)) ?_
      refine ops_nil ?_
      refine ⟨trivial, ?_⟩
      refine any_takes [5] (by kernel_rfl) trivial _ _ _ (by kernel_rfl) ?_
      refine qs_y rfl rfl (yv_index T.sl22 rfl rfl (h0.now hH304 (n := 7) rfl).is (by omega)) ?_
      refine qs_nil ?_
      refine any_all [1, 6] (by kernel_rfl) rfl ?_
      refine ⟨⟨_, rfl, ?_⟩, ⟨_, rfl, ?_⟩, trivial⟩
      ·skip
       refine ops_y hH304 rfl rfl (yv_load T.one22 rfl (fun _ hw => Heap.cellw hw (n := 3) rfl rfl)) ?_
       refine ops_nil ?_
       refine ⟨trivial, ?_⟩
       refine any_all [6] (by kernel_rfl) rfl ?_
       refine ⟨⟨_, rfl, ?_⟩, trivial⟩
       ·skip
        refine ops_y hH304 rfl rfl (yv_loadA (cs := [(.int .i64 ((nth l (k : Int)).n)), (.int .i64 ((nth l (k : Int)).d)), (.int .i64 ((nth l (k : Int)).f)), (.int .i64 ((nth l (k : Int)).t)), (.int .i64 ((nth l (k : Int)).a))]) T.agg38 rfl rfl (fun _ hw => Rd.atA (h0.now hw (n := 7) rfl) (i := (k : Int)) (by omega))) ?_
        refine ops_nil ?_
        refine ⟨trivial, ?_⟩
        refine any_all [7] (by kernel_rfl) rfl ?_
        refine ⟨⟨_, rfl, ?_⟩, trivial⟩
        ·skip
         refine op_lit (us := [(0, (.agg #[(.int .i64 ((nth l (k : Int)).n)), (.int .i64 ((nth l (k : Int)).d)), (.int .i64 ((nth l (k : Int)).f)), (.int .i64 ((nth l (k : Int)).t)), (.int .i64 ((nth l (k : Int)).a))]))]) T.el22_encE [(nth l (k : Int))] rfl (by decide) rfl (fun a ha => by simp [ha.ev (show ev _ (.tmp 63) = some _ from rfl)]) (fun w => by kernel_rfl) hH304 (fun u374 lo376 hi377 w375 hH378 => ?_)
         refine ops_nil ?_
         refine ⟨trivial, ?_⟩
         refine any_all [8] (by kernel_rfl) rfl ?_
         refine ⟨⟨_, rfl, ?_⟩, trivial⟩
         ·skip
          refine op_append (n := 1) T.el22_encE rfl rfl rfl hH378 rfl (Heap.rdw T.el22_encE hH378 (n := 0) rfl) (by first | omega | (simp only [List.length_append, List.length_cons, List.length_nil]; omega)) (fun u379 lo381 hi382 w380 hH383 => ?_)
          refine ops_nil ?_
          refine ⟨trivial, ?_⟩
          refine any_takes [9] (by kernel_rfl) trivial _ _ _ (by kernel_rfl) ?_
          refine qs_y rfl rfl (yv_field T.f24_0 rfl) ?_
          refine qs_nil ?_
          refine any_all [10] (by kernel_rfl) rfl ?_
          refine ⟨⟨_, rfl, ?_⟩, trivial⟩
          ·skip
           refine op_store (n := 4) (j := 0) (us := [u379]) rfl rfl hH383 rfl T.sz22 (SliceIs.cells (Heap.rdw T.el22_encE hH383 (n := 1) rfl).is) rfl rfl (SliceIs.one (Heap.rdw T.el22_encE hH383 (n := 1) rfl).is) (fun w384 hH385 => ?_)
           refine ops_nil ?_
           refine ⟨trivial, ?_⟩
           refine any_done (by kernel_rfl) ?_
           refine thn_n (seq (region (oM hH385 rfl rfl (oM hH385 rfl rfl ?_))))
           refine ops_y hH385 rfl rfl (yv_shr32u rfl rfl (by omega)) ?_
           refine ops_y hH385 rfl rfl (yv_and32u rfl rfl) ?_
           refine ops_y hH385 rfl rfl (yv_eql rfl rfl) ?_
           refine ops_nil (thn_n ?_)
           by_cases hc386 : (and32 (o2 / 2 ^ ((k : Int)).toNat)) = 1
           ·skip
            have hp2 : bit32 o2 k = true := dT ‹_›
            refine cond_t rfl (dT hc386) ?_
            refine region_draw (fun w' => True) T.mixed (fun w387 hr388 => ?_)
            have hH389 := hH385.redrawn hr388
            refine any_takes [0, 2, 4] (by kernel_rfl) trivial _ _ _ (by kernel_rfl) ?_
            refine qs_y rfl rfl (yv_field T.f24_0 rfl) ?_
            refine qs_y rfl rfl (yv_field T.f24_0 rfl) ?_
            refine qM rfl rfl rfl (qs_nil ?_)
            refine any_all [1, 3] (by kernel_rfl) rfl ?_
            refine ⟨⟨_, rfl, ?_⟩, ⟨_, rfl, ?_⟩, trivial⟩
            ·skip
             refine ops_y hH389 rfl rfl (yv_load T.one22 rfl (fun _ hw => Heap.cellw hw (n := 5) rfl rfl)) ?_
             refine ops_nil ?_
             refine ⟨trivial, ?_⟩
             refine any_all [3] (by kernel_rfl) rfl ?_
             refine ⟨⟨_, rfl, ?_⟩, trivial⟩
             ·skip
              refine ops_y hH389 rfl rfl (yv_load T.one22 rfl (fun _ hw => Heap.cellw hw (n := 7) rfl rfl)) ?_
              refine ops_nil ?_
              refine ⟨trivial, ?_⟩
              refine any_takes [5] (by kernel_rfl) trivial _ _ _ (by kernel_rfl) ?_
              refine qs_y rfl rfl (yv_index T.sl22 rfl rfl (h0.now hH389 (n := 8) rfl).is (by omega)) ?_
              refine qs_nil ?_
              refine any_all [6] (by kernel_rfl) rfl ?_
              refine ⟨⟨_, rfl, ?_⟩, trivial⟩
              ·skip
               refine ops_y hH389 rfl rfl (yv_loadA (cs := [(.int .i64 ((nth l (k : Int)).n)), (.int .i64 ((nth l (k : Int)).d)), (.int .i64 ((nth l (k : Int)).f)), (.int .i64 ((nth l (k : Int)).t)), (.int .i64 ((nth l (k : Int)).a))]) T.agg38 rfl rfl (fun _ hw => Rd.atA (h0.now hw (n := 8) rfl) (i := (k : Int)) (by omega))) ?_
               refine ops_nil ?_
               refine ⟨trivial, ?_⟩
               refine any_all [7] (by kernel_rfl) rfl ?_
               refine ⟨⟨_, rfl, ?_⟩, trivial⟩
               ·skip
                refine op_lit (us := [(0, (.agg #[(.int .i64 ((nth l (k : Int)).n)), (.int .i64 ((nth l (k : Int)).d)), (.int .i64 ((nth l (k : Int)).f)), (.int .i64 ((nth l (k : Int)).t)), (.int .i64 ((nth l (k : Int)).a))]))]) T.el22_encE [(nth l (k : Int))] rfl (by decide) rfl (fun a ha => by simp [ha.ev (show ev _ (.tmp 78) = some _ from rfl)]) (fun w => by kernel_rfl) hH389 (fun u390 lo392 hi393 w391 hH394 => ?_)
                refine ops_nil ?_
                refine ⟨trivial, ?_⟩
                refine any_all [8] (by kernel_rfl) rfl ?_
                refine ⟨⟨_, rfl, ?_⟩, trivial⟩
                ·skip
                 refine op_append (n := 3) T.el22_encE rfl rfl rfl hH394 rfl (Heap.rdw T.el22_encE hH394 (n := 0) rfl) (by first | omega | (simp only [List.length_append, List.length_cons, List.length_nil]; omega)) (fun u395 lo397 hi398 w396 hH399 => ?_)
                 refine ops_nil ?_
                 refine ⟨trivial, ?_⟩
                 refine any_takes [9] (by kernel_rfl) trivial _ _ _ (by kernel_rfl) ?_
                 refine qs_y rfl rfl (yv_field T.f24_0 rfl) ?_
                 refine qs_nil ?_
                 refine any_all [10] (by kernel_rfl) rfl ?_
                 refine ⟨⟨_, rfl, ?_⟩, trivial⟩
                 ·skip
                  refine op_store (n := 6) (j := 0) (us := [u395]) rfl rfl hH399 rfl T.sz22 (SliceIs.cells (Heap.rdw T.el22_encE hH399 (n := 3) rfl).is) rfl rfl (SliceIs.one (Heap.rdw T.el22_encE hH399 (n := 3) rfl).is) (fun w400 hH401 => ?_)
                  refine ops_nil ?_
                  refine ⟨trivial, ?_⟩
                  refine any_done (by kernel_rfl) ?_
                  refine blk_n (thn_n (region (oM hH401 rfl rfl ?_)))
                  refine ops_y hH401 rfl rfl (yv_add rfl rfl (by omega)) ?_
                  refine oA hH401 rfl rfl (ops_nil ?_)
                  have hH402 := (hH401.sub (sC (sC sR)))
                  refine lp_n (k + 1, v_b11, lo_b11, hi_b11, u395, lo397, hi398, u379, lo381, hi382) (uC rfl (uC rfl (uC rfl (uC rfl (uC rfl (uC rfl (uC rfl (uC rfl (uC rfl (uC rfl (Sub.nil _))))))))))) ?_ ?_
                  ·exact ⟨(Heap.recast (n := 0) (Heap.recast (n := 1) (Heap.recast (n := 2) hH402 rfl ((by first | exact B.sel_t hp1 | exact B.sel_f hp1))) rfl ((by first | exact B.sel_t hp2 | exact B.sel_f hp2))) rfl ((by first | exact B.sel_t hq1 | exact B.sel_f hq1))), by omega⟩
                  ·first | (dsimp only; omega) | (show _ < _; omega)
            ·skip
             refine ops_y hH389 rfl rfl (yv_load T.one22 rfl (fun _ hw => Heap.cellw hw (n := 7) rfl rfl)) ?_
             refine ops_nil ?_
             refine ⟨trivial, ?_⟩
             refine any_takes [5] (by kernel_rfl) trivial _ _ _ (by kernel_rfl) ?_
             refine qs_y rfl rfl (yv_index T.sl22 rfl rfl (h0.now hH389 (n := 8) rfl).is (by omega)) ?_
             refine qs_nil ?_
             refine any_all [1, 6] (by kernel_rfl) rfl ?_
             refine ⟨⟨_, rfl, ?_⟩, ⟨_, rfl, ?_⟩, trivial⟩
             ·skip
              refine ops_y hH389 rfl rfl (yv_load T.one22 rfl (fun _ hw => Heap.cellw hw (n := 5) rfl rfl)) ?_
              refine ops_nil ?_
              refine ⟨trivial, ?_⟩
              refine any_all [6] (by kernel_rfl) rfl ?_
              refine ⟨⟨_, rfl, ?_⟩, trivial⟩
              ·skip
               refine ops_y hH389 rfl rfl (yv_loadA (cs := [(.int .i64 ((nth l (k : Int)).n)), (.int .i64 ((nth l (k : Int)).d)), (.int .i64 ((nth l (k : Int)).f)), (.int .i64 ((nth l (k : Int)).t)), (.int .i64 ((nth l (k : Int)).a))]) T.agg38 rfl rfl (fun _ hw => Rd.atA (h0.now hw (n := 8) rfl) (i := (k : Int)) (by omega))) ?_
               refine ops_nil ?_
               refine ⟨trivial, ?_⟩
               refine any_all [7] (by kernel_rfl) rfl ?_
               refine ⟨⟨_, rfl, ?_⟩, trivial⟩
               ·skip
                refine op_lit (us := [(0, (.agg #[(.int .i64 ((nth l (k : Int)).n)), (.int .i64 ((nth l (k : Int)).d)), (.int .i64 ((nth l (k : Int)).f)), (.int .i64 ((nth l (k : Int)).t)), (.int .i64 ((nth l (k : Int)).a))]))]) T.el22_encE [(nth l (k : Int))] rfl (by decide) rfl (fun a ha => by simp [ha.ev (show ev _ (.tmp 78) = some _ from rfl)]) (fun w => by kernel_rfl) hH389 (fun u403 lo405 hi406 w404 hH407 => ?_)
                refine ops_nil ?_
                refine ⟨trivial, ?_⟩
                refine any_all [8] (by kernel_rfl) rfl ?_
                refine ⟨⟨_, rfl, ?_⟩, trivial⟩
                ·skip
                 refine op_append (n := 3) T.el22_encE rfl rfl rfl hH407 rfl (Heap.rdw T.el22_encE hH407 (n := 0) rfl) (by first | omega | (simp only [List.length_append, List.length_cons, List.length_nil]; omega)) (fun u408 lo410 hi411 w409 hH412 => ?_)
                 refine ops_nil ?_
                 refine ⟨trivial, ?_⟩
                 refine any_takes [9] (by kernel_rfl) trivial _ _ _ (by kernel_rfl) ?_
                 refine qs_y rfl rfl (yv_field T.f24_0 rfl) ?_
                 refine qs_nil ?_
                 refine any_all [10] (by kernel_rfl) rfl ?_
                 refine ⟨⟨_, rfl, ?_⟩, trivial⟩
                 ·skip
                  refine op_store (n := 6) (j := 0) (us := [u408]) rfl rfl hH412 rfl T.sz22 (SliceIs.cells (Heap.rdw T.el22_encE hH412 (n := 3) rfl).is) rfl rfl (SliceIs.one (Heap.rdw T.el22_encE hH412 (n := 3) rfl).is) (fun w413 hH414 => ?_)
                  refine ops_nil ?_
                  refine ⟨trivial, ?_⟩
                  refine any_done (by kernel_rfl) ?_
                  refine blk_n (thn_n (region (oM hH414 rfl rfl ?_)))
                  refine ops_y hH414 rfl rfl (yv_add rfl rfl (by omega)) ?_
                  refine oA hH414 rfl rfl (ops_nil ?_)
                  have hH415 := (hH414.sub (sC (sC sR)))
                  refine lp_n (k + 1, v_b11, lo_b11, hi_b11, u408, lo410, hi411, u379, lo381, hi382) (uC rfl (uC rfl (uC rfl (uC rfl (uC rfl (uC rfl (uC rfl (uC rfl (uC rfl (uC rfl (Sub.nil _))))))))))) ?_ ?_
                  ·exact ⟨(Heap.recast (n := 0) (Heap.recast (n := 1) (Heap.recast (n := 2) hH415 rfl ((by first | exact B.sel_t hp1 | exact B.sel_f hp1))) rfl ((by first | exact B.sel_t hp2 | exact B.sel_f hp2))) rfl ((by first | exact B.sel_t hq1 | exact B.sel_f hq1))), by omega⟩
                  ·first | (dsimp only; omega) | (show _ < _; omega)
             ·skip
              refine ops_y hH389 rfl rfl (yv_loadA (cs := [(.int .i64 ((nth l (k : Int)).n)), (.int .i64 ((nth l (k : Int)).d)), (.int .i64 ((nth l (k : Int)).f)), (.int .i64 ((nth l (k : Int)).t)), (.int .i64 ((nth l (k : Int)).a))]) T.agg38 rfl rfl (fun _ hw => Rd.atA (h0.now hw (n := 8) rfl) (i := (k : Int)) (by omega))) ?_
              refine ops_nil ?_
              refine ⟨trivial, ?_⟩
              refine any_all [1, 7] (by kernel_rfl) rfl ?_
              refine ⟨⟨_, rfl, ?_⟩, ⟨_, rfl, ?_⟩, trivial⟩
              ·skip
               refine ops_y hH389 rfl rfl (yv_load T.one22 rfl (fun _ hw => Heap.cellw hw (n := 5) rfl rfl)) ?_
               refine ops_nil ?_
               refine ⟨trivial, ?_⟩
               refine any_all [7] (by kernel_rfl) rfl ?_
               refine ⟨⟨_, rfl, ?_⟩, trivial⟩
               ·skip
                refine op_lit (us := [(0, (.agg #[(.int .i64 ((nth l (k : Int)).n)), (.int .i64 ((nth l (k : Int)).d)), (.int .i64 ((nth l (k : Int)).f)), (.int .i64 ((nth l (k : Int)).t)), (.int .i64 ((nth l (k : Int)).a))]))]) T.el22_encE [(nth l (k : Int))] rfl (by decide) rfl (fun a ha => by simp [ha.ev (show ev _ (.tmp 78) = some _ from rfl)]) (fun w => by kernel_rfl) hH389 (fun u416 lo418 hi419 w417 hH420 => ?_)
                refine ops_nil ?_
                refine ⟨trivial, ?_⟩
                refine any_all [8] (by kernel_rfl) rfl ?_
                refine ⟨⟨_, rfl, ?_⟩, trivial⟩
                ·skip
                 refine op_append (n := 3) T.el22_encE rfl rfl rfl hH420 rfl (Heap.rdw T.el22_encE hH420 (n := 0) rfl) (by first | omega | (simp only [List.length_append, List.length_cons, List.length_nil]; omega)) (fun u421 lo423 hi424 w422 hH425 => ?_)
                 refine ops_nil ?_
                 refine ⟨trivial, ?_⟩
                 refine any_takes [9] (by kernel_rfl) trivial _ _ _ (by kernel_rfl) ?_
                 refine qs_y rfl rfl (yv_field T.f24_0 rfl) ?_
                 refine qs_nil ?_
                 refine any_all [10] (by kernel_rfl) rfl ?_
                 refine ⟨⟨_, rfl, ?_⟩, trivial⟩
                 ·skip
                  refine op_store (n := 6) (j := 0) (us := [u421]) rfl rfl hH425 rfl T.sz22 (SliceIs.cells (Heap.rdw T.el22_encE hH425 (n := 3) rfl).is) rfl rfl (SliceIs.one (Heap.rdw T.el22_encE hH425 (n := 3) rfl).is) (fun w426 hH427 => ?_)
                  refine ops_nil ?_
                  refine ⟨trivial, ?_⟩
                  refine any_done (by kernel_rfl) ?_
                  refine blk_n (thn_n (region (oM hH427 rfl rfl ?_)))
                  refine ops_y hH427 rfl rfl (yv_add rfl rfl (by omega)) ?_
                  refine oA hH427 rfl rfl (ops_nil ?_)
                  have hH428 := (hH427.sub (sC (sC sR)))
                  refine lp_n (k + 1, v_b11, lo_b11, hi_b11, u421, lo423, hi424, u379, lo381, hi382) (uC rfl (uC rfl (uC rfl (uC rfl (uC rfl (uC rfl (uC rfl (uC rfl (uC rfl (uC rfl (Sub.nil _))))))))))) ?_ ?_
                  ·exact ⟨(Heap.recast (n := 0) (Heap.recast (n := 1) (Heap.recast (n := 2) hH428 rfl ((by first | exact B.sel_t hp1 | exact B.sel_f hp1))) rfl ((by first | exact B.sel_t hp2 | exact B.sel_f hp2))) rfl ((by first | exact B.sel_t hq1 | exact B.sel_f hq1))), by omega⟩
                  ·first | (dsimp only; omega) | (show _ < _; omega)
              ·skip
               refine op_lit (us := [(0, (.agg #[(.int .i64 ((nth l (k : Int)).n)), (.int .i64 ((nth l (k : Int)).d)), (.int .i64 ((nth l (k : Int)).f)), (.int .i64 ((nth l (k : Int)).t)), (.int .i64 ((nth l (k : Int)).a))]))]) T.el22_encE [(nth l (k : Int))] rfl (by decide) rfl (fun a ha => by simp [ha.ev (show ev _ (.tmp 78) = some _ from rfl)]) (fun w => by kernel_rfl) hH389 (fun u429 lo431 hi432 w430 hH433 => ?_)
               refine ops_nil ?_
               refine ⟨trivial, ?_⟩
               refine any_all [1] (by kernel_rfl) rfl ?_
               refine ⟨⟨_, rfl, ?_⟩, trivial⟩
               ·skip
                refine ops_y hH433 rfl rfl (yv_load T.one22 rfl (fun _ hw => Heap.cellw hw (n := 6) rfl rfl)) ?_
                refine ops_nil ?_
                refine ⟨trivial, ?_⟩
                refine any_all [8] (by kernel_rfl) rfl ?_
                refine ⟨⟨_, rfl, ?_⟩, trivial⟩
                ·skip
                 refine op_append (n := 3) T.el22_encE rfl rfl rfl hH433 rfl (Heap.rdw T.el22_encE hH433 (n := 0) rfl) (by first | omega | (simp only [List.length_append, List.length_cons, List.length_nil]; omega)) (fun u434 lo436 hi437 w435 hH438 => ?_)
                 refine ops_nil ?_
                 refine ⟨trivial, ?_⟩
                 refine any_takes [9] (by kernel_rfl) trivial _ _ _ (by kernel_rfl) ?_
                 refine qs_y rfl rfl (yv_field T.f24_0 rfl) ?_
                 refine qs_nil ?_
                 refine any_all [10] (by kernel_rfl) rfl ?_
                 refine ⟨⟨_, rfl, ?_⟩, trivial⟩
                 ·skip
                  refine op_store (n := 6) (j := 0) (us := [u434]) rfl rfl hH438 rfl T.sz22 (SliceIs.cells (Heap.rdw T.el22_encE hH438 (n := 3) rfl).is) rfl rfl (SliceIs.one (Heap.rdw T.el22_encE hH438 (n := 3) rfl).is) (fun w439 hH440 => ?_)
                  refine ops_nil ?_
                  refine ⟨trivial, ?_⟩
                  refine any_done (by kernel_rfl) ?_
                  refine blk_n (thn_n (region (oM hH440 rfl rfl ?_)))
                  refine ops_y hH440 rfl rfl (yv_add rfl rfl (by omega)) ?_
                  refine oA hH440 rfl rfl (ops_nil ?_)
                  have hH441 := (hH440.sub (sC (sC sR)))
                  refine lp_n (k + 1, v_b11, lo_b11, hi_b11, u434, lo436, hi437, u379, lo381, hi382) (uC rfl (uC rfl (uC rfl (uC rfl (uC rfl (uC rfl (uC rfl (uC rfl (uC rfl (uC rfl (Sub.nil _))))))))))) ?_ ?_
                  ·exact ⟨(Heap.recast (n := 0) (Heap.recast (n := 1) (Heap.recast (n := 2) hH441 rfl ((by first | exact B.sel_t hp1 | exact B.sel_f hp1))) rfl ((by first | exact B.sel_t hp2 | exact B.sel_f hp2))) rfl ((by first | exact B.sel_t hq1 | exact B.sel_f hq1))), by omega⟩
                  ·first | (dsimp only; omega) | (show _ < _; omega)
           ·skip
            have hp2 : ¬ bit32 o2 k = true := fun h => absurd (of_decide_eq_true h) ‹_›
            refine cond_f rfl (dF hc386) ?_
            refine skip (blk_n (thn_n (region (oM hH385 rfl rfl ?_))))
            refine ops_y hH385 rfl rfl (yv_add rfl rfl (by omega)) ?_
            refine oA hH385 rfl rfl (ops_nil ?_)
            have hH442 := (hH385.sub (sC sR))
            refine lp_n (k + 1, v_b11, lo_b11, hi_b11, v_b12, lo_b12, hi_b12, u379, lo381, hi382) (uC rfl (uC rfl (uC rfl (uC rfl (uC rfl (uC rfl (uC rfl (uC rfl (uC rfl (uC rfl (Sub.nil _))))))))))) ?_ ?_
            ·exact ⟨(Heap.recast (n := 0) (Heap.recast (n := 1) (Heap.recast (n := 2) hH442 rfl ((by first | exact B.sel_t hp1 | exact B.sel_f hp1))) rfl ((by first | exact B.sel_t hp2 | exact B.sel_f hp2))) rfl ((by first | exact B.sel_t hq1 | exact B.sel_f hq1))), by omega⟩
            ·first | (dsimp only; omega) | (show _ < _; omega)
      ·skip
       refine ops_y hH304 rfl rfl (yv_loadA (cs := [(.int .i64 ((nth l (k : Int)).n)), (.int .i64 ((nth l (k : Int)).d)), (.int .i64 ((nth l (k : Int)).f)), (.int .i64 ((nth l (k : Int)).t)), (.int .i64 ((nth l (k : Int)).a))]) T.agg38 rfl rfl (fun _ hw => Rd.atA (h0.now hw (n := 7) rfl) (i := (k : Int)) (by omega))) ?_
       refine ops_nil ?_
       refine ⟨trivial, ?_⟩
       refine any_all [1, 7] (by kernel_rfl) rfl ?_
       refine ⟨⟨_, rfl, ?_⟩, ⟨_, rfl, ?_⟩, trivial⟩
       ·skip
        refine ops_y hH304 rfl rfl (yv_load T.one22 rfl (fun _ hw => Heap.cellw hw (n := 3) rfl rfl)) ?_
        refine ops_nil ?_
        refine ⟨trivial, ?_⟩
        refine any_all [7] (by kernel_rfl) rfl ?_
        refine ⟨⟨_, rfl, ?_⟩, trivial⟩
        ·skip
         refine op_lit (us := [(0, (.agg #[(.int .i64 ((nth l (k : Int)).n)), (.int .i64 ((nth l (k : Int)).d)), (.int .i64 ((nth l (k : Int)).f)), (.int .i64 ((nth l (k : Int)).t)), (.int .i64 ((nth l (k : Int)).a))]))]) T.el22_encE [(nth l (k : Int))] rfl (by decide) rfl (fun a ha => by simp [ha.ev (show ev _ (.tmp 63) = some _ from rfl)]) (fun w => by kernel_rfl) hH304 (fun u443 lo445 hi446 w444 hH447 => ?_)
         refine ops_nil ?_
         refine ⟨trivial, ?_⟩
         refine any_all [8] (by kernel_rfl) rfl ?_
         refine ⟨⟨_, rfl, ?_⟩, trivial⟩
         ·skip
          refine op_append (n := 1) T.el22_encE rfl rfl rfl hH447 rfl (Heap.rdw T.el22_encE hH447 (n := 0) rfl) (by first | omega | (simp only [List.length_append, List.length_cons, List.length_nil]; omega)) (fun u448 lo450 hi451 w449 hH452 => ?_)
          refine ops_nil ?_
          refine ⟨trivial, ?_⟩
          refine any_takes [9] (by kernel_rfl) trivial _ _ _ (by kernel_rfl) ?_
          refine qs_y rfl rfl (yv_field T.f24_0 rfl) ?_
          refine qs_nil ?_
          refine any_all [10] (by kernel_rfl) rfl ?_
          refine ⟨⟨_, rfl, ?_⟩, trivial⟩
          ·skip
           refine op_store (n := 4) (j := 0) (us := [u448]) rfl rfl hH452 rfl T.sz22 (SliceIs.cells (Heap.rdw T.el22_encE hH452 (n := 1) rfl).is) rfl rfl (SliceIs.one (Heap.rdw T.el22_encE hH452 (n := 1) rfl).is) (fun w453 hH454 => ?_)
           refine ops_nil ?_
           refine ⟨trivial, ?_⟩
           refine any_done (by kernel_rfl) ?_
           refine thn_n (seq (region (oM hH454 rfl rfl (oM hH454 rfl rfl ?_))))
           refine ops_y hH454 rfl rfl (yv_shr32u rfl rfl (by omega)) ?_
           refine ops_y hH454 rfl rfl (yv_and32u rfl rfl) ?_
           refine ops_y hH454 rfl rfl (yv_eql rfl rfl) ?_
           refine ops_nil (thn_n ?_)
           by_cases hc455 : (and32 (o2 / 2 ^ ((k : Int)).toNat)) = 1
           ·skip
            have hp2 : bit32 o2 k = true := dT ‹_›
            refine cond_t rfl (dT hc455) ?_
            refine region_draw (fun w' => True) T.mixed (fun w456 hr457 => ?_)
            have hH458 := hH454.redrawn hr457
            refine any_takes [0, 2, 4] (by kernel_rfl) trivial _ _ _ (by kernel_rfl) ?_
            refine qs_y rfl rfl (yv_field T.f24_0 rfl) ?_
            refine qs_y rfl rfl (yv_field T.f24_0 rfl) ?_
            refine qM rfl rfl rfl (qs_nil ?_)
            refine any_all [1, 3] (by kernel_rfl) rfl ?_
            refine ⟨⟨_, rfl, ?_⟩, ⟨_, rfl, ?_⟩, trivial⟩
            ·skip
             refine ops_y hH458 rfl rfl (yv_load T.one22 rfl (fun _ hw => Heap.cellw hw (n := 5) rfl rfl)) ?_
             refine ops_nil ?_
             refine ⟨trivial, ?_⟩
             refine any_all [3] (by kernel_rfl) rfl ?_
             refine ⟨⟨_, rfl, ?_⟩, trivial⟩
             ·skip
              refine ops_y hH458 rfl rfl (yv_load T.one22 rfl (fun _ hw => Heap.cellw hw (n := 7) rfl rfl)) ?_
              refine ops_nil ?_
              refine ⟨trivial, ?_⟩
              refine any_takes [5] (by kernel_rfl) trivial _ _ _ (by kernel_rfl) ?_
              refine qs_y rfl rfl (yv_index T.sl22 rfl rfl (h0.now hH458 (n := 8) rfl).is (by omega)) ?_
              refine qs_nil ?_
              refine any_all [6] (by kernel_rfl) rfl ?_
              refine ⟨⟨_, rfl, ?_⟩, trivial⟩
              ·skip
               refine ops_y hH458 rfl rfl (yv_loadA (cs := [(.int .i64 ((nth l (k : Int)).n)), (.int .i64 ((nth l (k : Int)).d)), (.int .i64 ((nth l (k : Int)).f)), (.int .i64 ((nth l (k : Int)).t)), (.int .i64 ((nth l (k : Int)).a))]) T.agg38 rfl rfl (fun _ hw => Rd.atA (h0.now hw (n := 8) rfl) (i := (k : Int)) (by omega))) ?_
               refine ops_nil ?_
               refine ⟨trivial, ?_⟩
               refine any_all [7] (by kernel_rfl) rfl ?_
               refine ⟨⟨_, rfl, ?_⟩, trivial⟩
               ·skip
                refine op_lit (us := [(0, (.agg #[(.int .i64 ((nth l (k : Int)).n)), (.int .i64 ((nth l (k : Int)).d)), (.int .i64 ((nth l (k : Int)).f)), (.int .i64 ((nth l (k : Int)).t)), (.int .i64 ((nth l (k : Int)).a))]))]) T.el22_encE [(nth l (k : Int))] rfl (by decide) rfl (fun a ha => by simp [ha.ev (show ev _ (.tmp 78) = some _ from rfl)]) (fun w => by kernel_rfl) hH458 (fun u459 lo461 hi462 w460 hH463 => ?_)
                refine ops_nil ?_
                refine ⟨trivial, ?_⟩
                refine any_all [8] (by kernel_rfl) rfl ?_
                refine ⟨⟨_, rfl, ?_⟩, trivial⟩
                ·skip
                 refine op_append (n := 3) T.el22_encE rfl rfl rfl hH463 rfl (Heap.rdw T.el22_encE hH463 (n := 0) rfl) (by first | omega | (simp only [List.length_append, List.length_cons, List.length_nil]; omega)) (fun u464 lo466 hi467 w465 hH468 => ?_)
                 refine ops_nil ?_
                 refine ⟨trivial, ?_⟩
                 refine any_takes [9] (by kernel_rfl) trivial _ _ _ (by kernel_rfl) ?_
                 refine qs_y rfl rfl (yv_field T.f24_0 rfl) ?_
                 refine qs_nil ?_
                 refine any_all [10] (by kernel_rfl) rfl ?_
                 refine ⟨⟨_, rfl, ?_⟩, trivial⟩
                 ·skip
                  refine op_store (n := 6) (j := 0) (us := [u464]) rfl rfl hH468 rfl T.sz22 (SliceIs.cells (Heap.rdw T.el22_encE hH468 (n := 3) rfl).is) rfl rfl (SliceIs.one (Heap.rdw T.el22_encE hH468 (n := 3) rfl).is) (fun w469 hH470 => ?_)
                  refine ops_nil ?_
                  refine ⟨trivial, ?_⟩
                  refine any_done (by kernel_rfl) ?_
                  refine blk_n (thn_n (region (oM hH470 rfl rfl ?_)))
                  refine ops_y hH470 rfl rfl (yv_add rfl rfl (by omega)) ?_
                  refine oA hH470 rfl rfl (ops_nil ?_)
                  have hH471 := (hH470.sub (sC (sC sR)))
                  refine lp_n (k + 1, v_b11, lo_b11, hi_b11, u464, lo466, hi467, u448, lo450, hi451) (uC rfl (uC rfl (uC rfl (uC rfl (uC rfl (uC rfl (uC rfl (uC rfl (uC rfl (uC rfl (Sub.nil _))))))))))) ?_ ?_
                  ·exact ⟨(Heap.recast (n := 0) (Heap.recast (n := 1) (Heap.recast (n := 2) hH471 rfl ((by first | exact B.sel_t hp1 | exact B.sel_f hp1))) rfl ((by first | exact B.sel_t hp2 | exact B.sel_f hp2))) rfl ((by first | exact B.sel_t hq1 | exact B.sel_f hq1))), by omega⟩
                  ·first | (dsimp only; omega) | (show _ < _; omega)
            ·skip
             refine ops_y hH458 rfl rfl (yv_load T.one22 rfl (fun _ hw => Heap.cellw hw (n := 7) rfl rfl)) ?_
             refine ops_nil ?_
             refine ⟨trivial, ?_⟩
             refine any_takes [5] (by kernel_rfl) trivial _ _ _ (by kernel_rfl) ?_
             refine qs_y rfl rfl (yv_index T.sl22 rfl rfl (h0.now hH458 (n := 8) rfl).is (by omega)) ?_
             refine qs_nil ?_
             refine any_all [1, 6] (by kernel_rfl) rfl ?_
             refine ⟨⟨_, rfl, ?_⟩, ⟨_, rfl, ?_⟩, trivial⟩
             ·skip
              refine ops_y hH458 rfl rfl (yv_load T.one22 rfl (fun _ hw => Heap.cellw hw (n := 5) rfl rfl)) ?_
              refine ops_nil ?_
              refine ⟨trivial, ?_⟩
              refine any_all [6] (by kernel_rfl) rfl ?_
              refine ⟨⟨_, rfl, ?_⟩, trivial⟩
              ·skip
               refine ops_y hH458 rfl rfl (yv_loadA (cs := [(.int .i64 ((nth l (k : Int)).n)), (.int .i64 ((nth l (k : Int)).d)), (.int .i64 ((nth l (k : Int)).f)), (.int .i64 ((nth l (k : Int)).t)), (.int .i64 ((nth l (k : Int)).a))]) T.agg38 rfl rfl (fun _ hw => Rd.atA (h0.now hw (n := 8) rfl) (i := (k : Int)) (by omega))) ?_
               refine ops_nil ?_
               refine ⟨trivial, ?_⟩
               refine any_all [7] (by kernel_rfl) rfl ?_
               refine ⟨⟨_, rfl, ?_⟩, trivial⟩
               ·skip
                refine op_lit (us := [(0, (.agg #[(.int .i64 ((nth l (k : Int)).n)), (.int .i64 ((nth l (k : Int)).d)), (.int .i64 ((nth l (k : Int)).f)), (.int .i64 ((nth l (k : Int)).t)), (.int .i64 ((nth l (k : Int)).a))]))]) T.el22_encE [(nth l (k : Int))] rfl (by decide) rfl (fun a ha => by simp [ha.ev (show ev _ (.tmp 78) = some _ from rfl)]) (fun w => by kernel_rfl) hH458 (fun u472 lo474 hi475 w473 hH476 => ?_)
                refine ops_nil ?_
                refine ⟨trivial, ?_⟩
                refine any_all [8] (by kernel_rfl) rfl ?_
                refine ⟨⟨_, rfl, ?_⟩, trivial⟩
                ·skip
                 refine op_append (n := 3) T.el22_encE rfl rfl rfl hH476 rfl (Heap.rdw T.el22_encE hH476 (n := 0) rfl) (by first | omega | (simp only [List.length_append, List.length_cons, List.length_nil]; omega)) (fun u477 lo479 hi480 w478 hH481 => ?_)
                 refine ops_nil ?_
                 refine ⟨trivial, ?_⟩
                 refine any_takes [9] (by kernel_rfl) trivial _ _ _ (by kernel_rfl) ?_
                 refine qs_y rfl rfl (yv_field T.f24_0 rfl) ?_
                 refine qs_nil ?_
                 refine any_all [10] (by kernel_rfl) rfl ?_
                 refine ⟨⟨_, rfl, ?_⟩, trivial⟩
                 ·skip
                  refine op_store (n := 6) (j := 0) (us := [u477]) rfl rfl hH481 rfl T.sz22 (SliceIs.cells (Heap.rdw T.el22_encE hH481 (n := 3) rfl).is) rfl rfl (SliceIs.one (Heap.rdw T.el22_encE hH481 (n := 3) rfl).is) (fun w482 hH483 => ?_)
                  refine ops_nil ?_
                  refine ⟨trivial, ?_⟩
                  refine any_done (by kernel_rfl) ?_
                  refine blk_n (thn_n (region (oM hH483 rfl rfl ?_)))
                  refine ops_y hH483 rfl rfl (yv_add rfl rfl (by omega)) ?_
                  refine oA hH483 rfl rfl (ops_nil ?_)
                  have hH484 := (hH483.sub (sC (sC sR)))
                  refine lp_n (k + 1, v_b11, lo_b11, hi_b11, u477, lo479, hi480, u448, lo450, hi451) (uC rfl (uC rfl (uC rfl (uC rfl (uC rfl (uC rfl (uC rfl (uC rfl (uC rfl (uC rfl (Sub.nil _))))))))))) ?_ ?_
                  ·exact ⟨(Heap.recast (n := 0) (Heap.recast (n := 1) (Heap.recast (n := 2) hH484 rfl ((by first | exact B.sel_t hp1 | exact B.sel_f hp1))) rfl ((by first | exact B.sel_t hp2 | exact B.sel_f hp2))) rfl ((by first | exact B.sel_t hq1 | exact B.sel_f hq1))), by omega⟩
                  ·first | (dsimp only; omega) | (show _ < _; omega)
             ·skip
              refine ops_y hH458 rfl rfl (yv_loadA (cs := [(.int .i64 ((nth l (k : Int)).n)), (.int .i64 ((nth l (k : Int)).d)), (.int .i64 ((nth l (k : Int)).f)), (.int .i64 ((nth l (k : Int)).t)), (.int .i64 ((nth l (k : Int)).a))]) T.agg38 rfl rfl (fun _ hw => Rd.atA (h0.now hw (n := 8) rfl) (i := (k : Int)) (by omega))) ?_
              refine ops_nil ?_
              refine ⟨trivial, ?_⟩
              refine any_all [1, 7] (by kernel_rfl) rfl ?_
              refine ⟨⟨_, rfl, ?_⟩, ⟨_, rfl, ?_⟩, trivial⟩
              ·skip
               refine ops_y hH458 rfl rfl (yv_load T.one22 rfl (fun _ hw => Heap.cellw hw (n := 5) rfl rfl)) ?_
               refine ops_nil ?_
               refine ⟨trivial, ?_⟩
               refine any_all [7] (by kernel_rfl) rfl ?_
               refine ⟨⟨_, rfl, ?_⟩, trivial⟩
               ·skip
                refine op_lit (us := [(0, (.agg #[(.int .i64 ((nth l (k : Int)).n)), (.int .i64 ((nth l (k : Int)).d)), (.int .i64 ((nth l (k : Int)).f)), (.int .i64 ((nth l (k : Int)).t)), (.int .i64 ((nth l (k : Int)).a))]))]) T.el22_encE [(nth l (k : Int))] rfl (by decide) rfl (fun a ha => by simp [ha.ev (show ev _ (.tmp 78) = some _ from rfl)]) (fun w => by kernel_rfl) hH458 (fun u485 lo487 hi488 w486 hH489 => ?_)
                refine ops_nil ?_
                refine ⟨trivial, ?_⟩
                refine any_all [8] (by kernel_rfl) rfl ?_
                refine ⟨⟨_, rfl, ?_⟩, trivial⟩
                ·skip
                 refine op_append (n := 3) T.el22_encE rfl rfl rfl hH489 rfl (Heap.rdw T.el22_encE hH489 (n := 0) rfl) (by first | omega | (simp only [List.length_append, List.length_cons, List.length_nil]; omega)) (fun u490 lo492 hi493 w491 hH494 => ?_)
                 refine ops_nil ?_
                 refine ⟨trivial, ?_⟩
                 refine any_takes [9] (by kernel_rfl) trivial _ _ _ (by kernel_rfl) ?_
                 refine qs_y rfl rfl (yv_field T.f24_0 rfl) ?_
                 refine qs_nil ?_
                 refine any_all [10] (by kernel_rfl) rfl ?_
                 refine ⟨⟨_, rfl, ?_⟩, trivial⟩
                 ·skip
                  refine op_store (n := 6) (j := 0) (us := [u490]) rfl rfl hH494 rfl T.sz22 (SliceIs.cells (Heap.rdw T.el22_encE hH494 (n := 3) rfl).is) rfl rfl (SliceIs.one (Heap.rdw T.el22_encE hH494 (n := 3) rfl).is) (fun w495 hH496 => ?_)
                  refine ops_nil ?_
                  refine ⟨trivial, ?_⟩
                  refine any_done (by kernel_rfl) ?_
                  refine blk_n (thn_n (region (oM hH496 rfl rfl ?_)))
                  refine ops_y hH496 rfl rfl (yv_add rfl rfl (by omega)) ?_
                  refine oA hH496 rfl rfl (ops_nil ?_)
                  have hH497 := (hH496.sub (sC (sC sR)))
                  refine lp_n (k + 1, v_b11, lo_b11, hi_b11, u490, lo492, hi493, u448, lo450, hi451) (uC rfl (uC rfl (uC rfl (uC rfl (uC rfl (uC rfl (uC rfl (uC rfl (uC rfl (uC rfl (Sub.nil _))))))))))) ?_ ?_
                  ·exact ⟨(Heap.recast (n := 0) (Heap.recast (n := 1) (Heap.recast (n := 2) hH497 rfl ((by first | exact B.sel_t hp1 | exact B.sel_f hp1))) rfl ((by first | exact B.sel_t hp2 | exact B.sel_f hp2))) rfl ((by first | exact B.sel_t hq1 | exact B.sel_f hq1))), by omega⟩
                  ·first | (dsimp only; omega) | (show _ < _; omega)
              ·skip
               refine op_lit (us := [(0, (.agg #[(.int .i64 ((nth l (k : Int)).n)), (.int .i64 ((nth l (k : Int)).d)), (.int .i64 ((nth l (k : Int)).f)), (.int .i64 ((nth l (k : Int)).t)), (.int .i64 ((nth l (k : Int)).a))]))]) T.el22_encE [(nth l (k : Int))] rfl (by decide) rfl (fun a ha => by simp [ha.ev (show ev _ (.tmp 78) = some _ from rfl)]) (fun w => by kernel_rfl) hH458 (fun u498 lo500 hi501 w499 hH502 => ?_)
               refine ops_nil ?_
               refine ⟨trivial, ?_⟩
               refine any_all [1] (by kernel_rfl) rfl ?_
               refine ⟨⟨_, rfl, ?_⟩, trivial⟩
               ·skip
                refine ops_y hH502 rfl rfl (yv_load T.one22 rfl (fun _ hw => Heap.cellw hw (n := 6) rfl rfl)) ?_
                refine ops_nil ?_
                refine ⟨trivial, ?_⟩
                refine any_all [8] (by kernel_rfl) rfl ?_
                refine ⟨⟨_, rfl, ?_⟩, trivial⟩
                ·skip
                 refine op_append (n := 3) T.el22_encE rfl rfl rfl hH502 rfl (Heap.rdw T.el22_encE hH502 (n := 0) rfl) (by first | omega | (simp only [List.length_append, List.length_cons, List.length_nil]; omega)) (fun u503 lo505 hi506 w504 hH507 => ?_)
                 refine ops_nil ?_
                 refine ⟨trivial, ?_⟩
                 refine any_takes [9] (by kernel_rfl) trivial _ _ _ (by kernel_rfl) ?_
                 refine qs_y rfl rfl (yv_field T.f24_0 rfl) ?_
                 refine qs_nil ?_
                 refine any_all [10] (by kernel_rfl) rfl ?_
                 refine ⟨⟨_, rfl, ?_⟩, trivial⟩
                 ·skip
                  refine op_store (n := 6) (j := 0) (us := [u503]) rfl rfl hH507 rfl T.sz22 (SliceIs.cells (Heap.rdw T.el22_encE hH507 (n := 3) rfl).is) rfl rfl (SliceIs.one (Heap.rdw T.el22_encE hH507 (n := 3) rfl).is) (fun w508 hH509 => ?_)
                  refine ops_nil ?_
                  refine ⟨trivial, ?_⟩
                  refine any_done (by kernel_rfl) ?_
                  refine blk_n (thn_n (region (oM hH509 rfl rfl ?_)))
                  refine ops_y hH509 rfl rfl (yv_add rfl rfl (by omega)) ?_
                  refine oA hH509 rfl rfl (ops_nil ?_)
                  have hH510 := (hH509.sub (sC (sC sR)))
                  refine lp_n (k + 1, v_b11, lo_b11, hi_b11, u503, lo505, hi506, u448, lo450, hi451) (uC rfl (uC rfl (uC rfl (uC rfl (uC rfl (uC rfl (uC rfl (uC rfl (uC rfl (uC rfl (Sub.nil _))))))))))) ?_ ?_
                  ·exact ⟨(Heap.recast (n := 0) (Heap.recast (n := 1) (Heap.recast (n := 2) hH510 rfl ((by first | exact B.sel_t hp1 | exact B.sel_f hp1))) rfl ((by first | exact B.sel_t hp2 | exact B.sel_f hp2))) rfl ((by first | exact B.sel_t hq1 | exact B.sel_f hq1))), by omega⟩
                  ·first | (dsimp only; omega) | (show _ < _; omega)
           ·skip
            have hp2 : ¬ bit32 o2 k = true := fun h => absurd (of_decide_eq_true h) ‹_›
            refine cond_f rfl (dF hc455) ?_
            refine skip (blk_n (thn_n (region (oM hH454 rfl rfl ?_))))
            refine ops_y hH454 rfl rfl (yv_add rfl rfl (by omega)) ?_
            refine oA hH454 rfl rfl (ops_nil ?_)
            have hH511 := (hH454.sub (sC sR))
            refine lp_n (k + 1, v_b11, lo_b11, hi_b11, v_b12, lo_b12, hi_b12, u448, lo450, hi451) (uC rfl (uC rfl (uC rfl (uC rfl (uC rfl (uC rfl (uC rfl (uC rfl (uC rfl (uC rfl (Sub.nil _))))))))))) ?_ ?_
            ·exact ⟨(Heap.recast (n := 0) (Heap.recast (n := 1) (Heap.recast (n := 2) hH511 rfl ((by first | exact B.sel_t hp1 | exact B.sel_f hp1))) rfl ((by first | exact B.sel_t hp2 | exact B.sel_f hp2))) rfl ((by first | exact B.sel_t hq1 | exact B.sel_f hq1))), by omega⟩
            ·first | (dsimp only; omega) | (show _ < _; omega)
       ·skip
        refine op_lit (us := [(0, (.agg #[(.int .i64 ((nth l (k : Int)).n)), (.int .i64 ((nth l (k : Int)).d)), (.int .i64 ((nth l (k : Int)).f)), (.int .i64 ((nth l (k : Int)).t)), (.int .i64 ((nth l (k : Int)).a))]))]) T.el22_encE [(nth l (k : Int))] rfl (by decide) rfl (fun a ha => by simp [ha.ev (show ev _ (.tmp 63) = some _ from rfl)]) (fun w => by kernel_rfl) hH304 (fun u512 lo514 hi515 w513 hH516 => ?_)
        refine ops_nil ?_
        refine ⟨trivial, ?_⟩
        refine any_all [1] (by kernel_rfl) rfl ?_
        refine ⟨⟨_, rfl, ?_⟩, trivial⟩
        ·skip
         refine ops_y hH516 rfl rfl (yv_load T.one22 rfl (fun _ hw => Heap.cellw hw (n := 4) rfl rfl)) ?_
         refine ops_nil ?_
         refine ⟨trivial, ?_⟩
         refine any_all [8] (by kernel_rfl) rfl ?_
         refine ⟨⟨_, rfl, ?_⟩, trivial⟩
         ·skip
          refine op_append (n := 1) T.el22_encE rfl rfl rfl hH516 rfl (Heap.rdw T.el22_encE hH516 (n := 0) rfl) (by first | omega | (simp only [List.length_append, List.length_cons, List.length_nil]; omega)) (fun u517 lo519 hi520 w518 hH521 => ?_)
          refine ops_nil ?_
          refine ⟨trivial, ?_⟩
          refine any_takes [9] (by kernel_rfl) trivial _ _ _ (by kernel_rfl) ?_
          refine qs_y rfl rfl (yv_field T.f24_0 rfl) ?_
          refine qs_nil ?_
          refine any_all [10] (by kernel_rfl) rfl ?_
          refine ⟨⟨_, rfl, ?_⟩, trivial⟩
          ·skip
           refine op_store (n := 4) (j := 0) (us := [u517]) rfl rfl hH521 rfl T.sz22 (SliceIs.cells (Heap.rdw T.el22_encE hH521 (n := 1) rfl).is) rfl rfl (SliceIs.one (Heap.rdw T.el22_encE hH521 (n := 1) rfl).is) (fun w522 hH523 => ?_)
           refine ops_nil ?_
           refine ⟨trivial, ?_⟩
           refine any_done (by kernel_rfl) ?_
           refine thn_n (seq (region (oM hH523 rfl rfl (oM hH523 rfl rfl ?_))))
           refine ops_y hH523 rfl rfl (yv_shr32u rfl rfl (by omega)) ?_
           refine ops_y hH523 rfl rfl (yv_and32u rfl rfl) ?_
           refine ops_y hH523 rfl rfl (yv_eql rfl rfl) ?_
           refine ops_nil (thn_n ?_)
           by_cases hc524 : (and32 (o2 / 2 ^ ((k : Int)).toNat)) = 1
           ·skip
            have hp2 : bit32 o2 k = true := dT ‹_›
            refine cond_t rfl (dT hc524) ?_
            refine region_draw (fun w' => True) T.mixed (fun w525 hr526 => ?_)
            have hH527 := hH523.redrawn hr526
            refine any_takes [0, 2, 4] (by kernel_rfl) trivial _ _ _ (by kernel_rfl) ?_
            refine qs_y rfl rfl (yv_field T.f24_0 rfl) ?_
            refine qs_y rfl rfl (yv_field T.f24_0 rfl) ?_
            refine qM rfl rfl rfl (qs_nil ?_)
            refine any_all [1, 3] (by kernel_rfl) rfl ?_
            refine ⟨⟨_, rfl, ?_⟩, ⟨_, rfl, ?_⟩, trivial⟩
            ·skip
             refine ops_y hH527 rfl rfl (yv_load T.one22 rfl (fun _ hw => Heap.cellw hw (n := 5) rfl rfl)) ?_
             refine ops_nil ?_
             refine ⟨trivial, ?_⟩
             refine any_all [3] (by kernel_rfl) rfl ?_
             refine ⟨⟨_, rfl, ?_⟩, trivial⟩
             ·skip
              refine ops_y hH527 rfl rfl (yv_load T.one22 rfl (fun _ hw => Heap.cellw hw (n := 7) rfl rfl)) ?_
              refine ops_nil ?_
              refine ⟨trivial, ?_⟩
              refine any_takes [5] (by kernel_rfl) trivial _ _ _ (by kernel_rfl) ?_
              refine qs_y rfl rfl (yv_index T.sl22 rfl rfl (h0.now hH527 (n := 8) rfl).is (by omega)) ?_
              refine qs_nil ?_
              refine any_all [6] (by kernel_rfl) rfl ?_
              refine ⟨⟨_, rfl, ?_⟩, trivial⟩
              ·skip
               refine ops_y hH527 rfl rfl (yv_loadA (cs := [(.int .i64 ((nth l (k : Int)).n)), (.int .i64 ((nth l (k : Int)).d)), (.int .i64 ((nth l (k : Int)).f)), (.int .i64 ((nth l (k : Int)).t)), (.int .i64 ((nth l (k : Int)).a))]) T.agg38 rfl rfl (fun _ hw => Rd.atA (h0.now hw (n := 8) rfl) (i := (k : Int)) (by omega))) ?_
               refine ops_nil ?_
               refine ⟨trivial, ?_⟩
               refine any_all [7] (by kernel_rfl) rfl ?_
               refine ⟨⟨_, rfl, ?_⟩, trivial⟩
               ·skip
                refine op_lit (us := [(0, (.agg #[(.int .i64 ((nth l (k : Int)).n)), (.int .i64 ((nth l (k : Int)).d)), (.int .i64 ((nth l (k : Int)).f)), (.int .i64 ((nth l (k : Int)).t)), (.int .i64 ((nth l (k : Int)).a))]))]) T.el22_encE [(nth l (k : Int))] rfl (by decide) rfl (fun a ha => by simp [ha.ev (show ev _ (.tmp 78) = some _ from rfl)]) (fun w => by kernel_rfl) hH527 (fun u528 lo530 hi531 w529 hH532 => ?_)
                refine ops_nil ?_
                refine ⟨trivial, ?_⟩
                refine any_all [8] (by kernel_rfl) rfl ?_
                refine ⟨⟨_, rfl, ?_⟩, trivial⟩
                ·skip
                 refine op_append (n := 3) T.el22_encE rfl rfl rfl hH532 rfl (Heap.rdw T.el22_encE hH532 (n := 0) rfl) (by first | omega | (simp only [List.length_append, List.length_cons, List.length_nil]; omega)) (fun u533 lo535 hi536 w534 hH537 => ?_)
                 refine ops_nil ?_
                 refine ⟨trivial, ?_⟩
                 refine any_takes [9] (by kernel_rfl) trivial _ _ _ (by kernel_rfl) ?_
                 refine qs_y rfl rfl (yv_field T.f24_0 rfl) ?_
                 refine qs_nil ?_
                 refine any_all [10] (by kernel_rfl) rfl ?_
                 refine ⟨⟨_, rfl, ?_⟩, trivial⟩
                 ·skip
                  refine op_store (n := 6) (j := 0) (us := [u533]) rfl rfl hH537 rfl T.sz22 (SliceIs.cells (Heap.rdw T.el22_encE hH537 (n := 3) rfl).is) rfl rfl (SliceIs.one (Heap.rdw T.el22_encE hH537 (n := 3) rfl).is) (fun w538 hH539 => ?_)
                  refine ops_nil ?_
                  refine ⟨trivial, ?_⟩
                  refine any_done (by kernel_rfl) ?_
                  refine blk_n (thn_n (region (oM hH539 rfl rfl ?_)))
                  refine ops_y hH539 rfl rfl (yv_add rfl rfl (by omega)) ?_
                  refine oA hH539 rfl rfl (ops_nil ?_)
                  have hH540 := (hH539.sub (sC (sC sR)))
                  refine lp_n (k + 1, v_b11, lo_b11, hi_b11, u533, lo535, hi536, u517, lo519, hi520) (uC rfl (uC rfl (uC rfl (uC rfl (uC rfl (uC rfl (uC rfl (uC rfl (uC rfl (uC rfl (Sub.nil _))))))))))) ?_ ?_
                  ·exact ⟨(Heap.recast (n := 0) (Heap.recast (n := 1) (Heap.recast (n := 2) hH540 rfl ((by first | exact B.sel_t hp1 | exact B.sel_f hp1))) rfl ((by first | exact B.sel_t hp2 | exact B.sel_f hp2))) rfl ((by first | exact B.sel_t hq1 | exact B.sel_f hq1))), by omega⟩
                  ·first | (dsimp only; omega) | (show _ < _; omega)
            ·skip
             refine ops_y hH527 rfl rfl (yv_load T.one22 rfl (fun _ hw => Heap.cellw hw (n := 7) rfl rfl)) ?_
             refine ops_nil ?_
             refine ⟨trivial, ?_⟩
             refine any_takes [5] (by kernel_rfl) trivial _ _ _ (by kernel_rfl) ?_
             refine qs_y rfl rfl (yv_index T.sl22 rfl rfl (h0.now hH527 (n := 8) rfl).is (by omega)) ?_
             refine qs_nil ?_
             refine any_all [1, 6] (by kernel_rfl) rfl ?_
             refine ⟨⟨_, rfl, ?_⟩, ⟨_, rfl, ?_⟩, trivial⟩
             ·skip
              refine ops_y hH527 rfl rfl (yv_load T.one22 rfl (fun _ hw => Heap.cellw hw (n := 5) rfl rfl)) ?_
              refine ops_nil ?_
              refine ⟨trivial, ?_⟩
              refine any_all [6] (by kernel_rfl) rfl ?_
              refine ⟨⟨_, rfl, ?_⟩, trivial⟩
              ·skip
               refine ops_y hH527 rfl rfl (yv_loadA (cs := [(.int .i64 ((nth l (k : Int)).n)), (.int .i64 ((nth l (k : Int)).d)), (.int .i64 ((nth l (k : Int)).f)), (.int .i64 ((nth l (k : Int)).t)), (.int .i64 ((nth l (k : Int)).a))]) T.agg38 rfl rfl (fun _ hw => Rd.atA (h0.now hw (n := 8) rfl) (i := (k : Int)) (by omega))) ?_
               refine ops_nil ?_
               refine ⟨trivial, ?_⟩
               refine any_all [7] (by kernel_rfl) rfl ?_
               refine ⟨⟨_, rfl, ?_⟩, trivial⟩
               ·skip
                refine op_lit (us := [(0, (.agg #[(.int .i64 ((nth l (k : Int)).n)), (.int .i64 ((nth l (k : Int)).d)), (.int .i64 ((nth l (k : Int)).f)), (.int .i64 ((nth l (k : Int)).t)), (.int .i64 ((nth l (k : Int)).a))]))]) T.el22_encE [(nth l (k : Int))] rfl (by decide) rfl (fun a ha => by simp [ha.ev (show ev _ (.tmp 78) = some _ from rfl)]) (fun w => by kernel_rfl) hH527 (fun u541 lo543 hi544 w542 hH545 => ?_)
                refine ops_nil ?_
                refine ⟨trivial, ?_⟩
                refine any_all [8] (by kernel_rfl) rfl ?_
                refine ⟨⟨_, rfl, ?_⟩, trivial⟩
                ·skip
                 refine op_append (n := 3) T.el22_encE rfl rfl rfl hH545 rfl (Heap.rdw T.el22_encE hH545 (n := 0) rfl) (by first | omega | (simp only [List.length_append, List.length_cons, List.length_nil]; omega)) (fun u546 lo548 hi549 w547 hH550 => ?_)
                 refine ops_nil ?_
                 refine ⟨trivial, ?_⟩
                 refine any_takes [9] (by kernel_rfl) trivial _ _ _ (by kernel_rfl) ?_
                 refine qs_y rfl rfl (yv_field T.f24_0 rfl) ?_
                 refine qs_nil ?_
                 refine any_all [10] (by kernel_rfl) rfl ?_
                 refine ⟨⟨_, rfl, ?_⟩, trivial⟩
                 ·skip
                  refine op_store (n := 6) (j := 0) (us := [u546]) rfl rfl hH550 rfl T.sz22 (SliceIs.cells (Heap.rdw T.el22_encE hH550 (n := 3) rfl).is) rfl rfl (SliceIs.one (Heap.rdw T.el22_encE hH550 (n := 3) rfl).is) (fun w551 hH552 => ?_)
                  refine ops_nil ?_
                  refine ⟨trivial, ?_⟩
                  refine any_done (by kernel_rfl) ?_
                  refine blk_n (thn_n (region (oM hH552 rfl rfl ?_)))
                  refine ops_y hH552 rfl rfl (yv_add rfl rfl (by omega)) ?_
                  refine oA hH552 rfl rfl (ops_nil ?_)
                  have hH553 := (hH552.sub (sC (sC sR)))
                  refine lp_n (k + 1, v_b11, lo_b11, hi_b11, u546, lo548, hi549, u517, lo519, hi520) (uC rfl (uC rfl (uC rfl (uC rfl (uC rfl (uC rfl (uC rfl (uC rfl (uC rfl (uC rfl (Sub.nil _))))))))))) ?_ ?_
                  ·exact ⟨(Heap.recast (n := 0) (Heap.recast (n := 1) (Heap.recast (n := 2) hH553 rfl ((by first | exact B.sel_t hp1 | exact B.sel_f hp1))) rfl ((by first | exact B.sel_t hp2 | exact B.sel_f hp2))) rfl ((by first | exact B.sel_t hq1 | exact B.sel_f hq1))), by omega⟩
                  ·first | (dsimp only; omega) | (show _ < _; omega)
             ·skip
              refine ops_y hH527 rfl rfl (yv_loadA (cs := [(.int .i64 ((nth l (k : Int)).n)), (.int .i64 ((nth l (k : Int)).d)), (.int .i64 ((nth l (k : Int)).f)), (.int .i64 ((nth l (k : Int)).t)), (.int .i64 ((nth l (k : Int)).a))]) T.agg38 rfl rfl (fun _ hw => Rd.atA (h0.now hw (n := 8) rfl) (i := (k : Int)) (by omega))) ?_
              refine ops_nil ?_
              refine ⟨trivial, ?_⟩
              refine any_all [1, 7] (by kernel_rfl) rfl ?_
              refine ⟨⟨_, rfl, ?_⟩, ⟨_, rfl, ?_⟩, trivial⟩
              ·skip
               refine ops_y hH527 rfl rfl (yv_load T.one22 rfl (fun _ hw => Heap.cellw hw (n := 5) rfl rfl)) ?_
               refine ops_nil ?_
               refine ⟨trivial, ?_⟩
               refine any_all [7] (by kernel_rfl) rfl ?_
               refine ⟨⟨_, rfl, ?_⟩, trivial⟩
               ·skip
                refine op_lit (us := [(0, (.agg #[(.int .i64 ((nth l (k : Int)).n)), (.int .i64 ((nth l (k : Int)).d)), (.int .i64 ((nth l (k : Int)).f)), (.int .i64 ((nth l (k : Int)).t)), (.int .i64 ((nth l (k : Int)).a))]))]) T.el22_encE [(nth l (k : Int))] rfl (by decide) rfl (fun a ha => by simp [ha.ev (show ev _ (.tmp 78) = some _ from rfl)]) (fun w => by kernel_rfl) hH527 (fun u554 lo556 hi557 w555 hH558 => ?_)
                refine ops_nil ?_
                refine ⟨trivial, ?_⟩
                refine any_all [8] (by kernel_rfl) rfl ?_
                refine ⟨⟨_, rfl, ?_⟩, trivial⟩
                ·skip
                 refine op_append (n := 3) T.el22_encE rfl rfl rfl hH558 rfl (Heap.rdw T.el22_encE hH558 (n := 0) rfl) (by first | omega | (simp only [List.length_append, List.length_cons, List.length_nil]; omega)) (fun u559 lo561 hi562 w560 hH563 => ?_)
                 refine ops_nil ?_
                 refine ⟨trivial, ?_⟩
                 refine any_takes [9] (by kernel_rfl) trivial _ _ _ (by kernel_rfl) ?_
                 refine qs_y rfl rfl (yv_field T.f24_0 rfl) ?_
                 refine qs_nil ?_
                 refine any_all [10] (by kernel_rfl) rfl ?_
                 refine ⟨⟨_, rfl, ?_⟩, trivial⟩
                 ·skip
                  refine op_store (n := 6) (j := 0) (us := [u559]) rfl rfl hH563 rfl T.sz22 (SliceIs.cells (Heap.rdw T.el22_encE hH563 (n := 3) rfl).is) rfl rfl (SliceIs.one (Heap.rdw T.el22_encE hH563 (n := 3) rfl).is) (fun w564 hH565 => ?_)
                  refine ops_nil ?_
                  refine ⟨trivial, ?_⟩
                  refine any_done (by kernel_rfl) ?_
                  refine blk_n (thn_n (region (oM hH565 rfl rfl ?_)))
                  refine ops_y hH565 rfl rfl (yv_add rfl rfl (by omega)) ?_
                  refine oA hH565 rfl rfl (ops_nil ?_)
                  have hH566 := (hH565.sub (sC (sC sR)))
                  refine lp_n (k + 1, v_b11, lo_b11, hi_b11, u559, lo561, hi562, u517, lo519, hi520) (uC rfl (uC rfl (uC rfl (uC rfl (uC rfl (uC rfl (uC rfl (uC rfl (uC rfl (uC rfl (Sub.nil _))))))))))) ?_ ?_
                  ·exact ⟨(Heap.recast (n := 0) (Heap.recast (n := 1) (Heap.recast (n := 2) hH566 rfl ((by first | exact B.sel_t hp1 | exact B.sel_f hp1))) rfl ((by first | exact B.sel_t hp2 | exact B.sel_f hp2))) rfl ((by first | exact B.sel_t hq1 | exact B.sel_f hq1))), by omega⟩
                  ·first | (dsimp only; omega) | (show _ < _; omega)
              ·skip
               refine op_lit (us := [(0, (.agg #[(.int .i64 ((nth l (k : Int)).n)), (.int .i64 ((nth l (k : Int)).d)), (.int .i64 ((nth l (k : Int)).f)), (.int .i64 ((nth l (k : Int)).t)), (.int .i64 ((nth l (k : Int)).a))]))]) T.el22_encE [(nth l (k : Int))] rfl (by decide) rfl (fun a ha => by simp [ha.ev (show ev _ (.tmp 78) = some _ from rfl)]) (fun w => by kernel_rfl) hH527 (fun u567 lo569 hi570 w568 hH571 => ?_)
               refine ops_nil ?_
               refine ⟨trivial, ?_⟩
               refine any_all [1] (by kernel_rfl) rfl ?_
               refine ⟨⟨_, rfl, ?_⟩, trivial⟩
               ·skip
                refine ops_y hH571 rfl rfl (yv_load T.one22 rfl (fun _ hw => Heap.cellw hw (n := 6) rfl rfl)) ?_
                refine ops_nil ?_
                refine ⟨trivial, ?_⟩
                refine any_all [8] (by kernel_rfl) rfl ?_
                refine ⟨⟨_, rfl, ?_⟩, trivial⟩
                ·skip
                 refine op_append (n := 3) T.el22_encE rfl rfl rfl hH571 rfl (Heap.rdw T.el22_encE hH571 (n := 0) rfl) (by first | omega | (simp only [List.length_append, List.length_cons, List.length_nil]; omega)) (fun u572 lo574 hi575 w573 hH576 => ?_)
                 refine ops_nil ?_
                 refine ⟨trivial, ?_⟩
                 refine any_takes [9] (by kernel_rfl) trivial _ _ _ (by kernel_rfl) ?_
                 refine qs_y rfl rfl (yv_field T.f24_0 rfl) ?_
                 refine qs_nil ?_
                 refine any_all [10] (by kernel_rfl) rfl ?_
                 refine ⟨⟨_, rfl, ?_⟩, trivial⟩
                 ·skip
                  refine op_store (n := 6) (j := 0) (us := [u572]) rfl rfl hH576 rfl T.sz22 (SliceIs.cells (Heap.rdw T.el22_encE hH576 (n := 3) rfl).is) rfl rfl (SliceIs.one (Heap.rdw T.el22_encE hH576 (n := 3) rfl).is) (fun w577 hH578 => ?_)
                  refine ops_nil ?_
                  refine ⟨trivial, ?_⟩
                  refine any_done (by kernel_rfl) ?_
                  refine blk_n (thn_n (region (oM hH578 rfl rfl ?_)))
                  refine ops_y hH578 rfl rfl (yv_add rfl rfl (by omega)) ?_
                  refine oA hH578 rfl rfl (ops_nil ?_)
                  have hH579 := (hH578.sub (sC (sC sR)))
                  refine lp_n (k + 1, v_b11, lo_b11, hi_b11, u572, lo574, hi575, u517, lo519, hi520) (uC rfl (uC rfl (uC rfl (uC rfl (uC rfl (uC rfl (uC rfl (uC rfl (uC rfl (uC rfl (Sub.nil _))))))))))) ?_ ?_
                  ·exact ⟨(Heap.recast (n := 0) (Heap.recast (n := 1) (Heap.recast (n := 2) hH579 rfl ((by first | exact B.sel_t hp1 | exact B.sel_f hp1))) rfl ((by first | exact B.sel_t hp2 | exact B.sel_f hp2))) rfl ((by first | exact B.sel_t hq1 | exact B.sel_f hq1))), by omega⟩
                  ·first | (dsimp only; omega) | (show _ < _; omega)
           ·skip
            have hp2 : ¬ bit32 o2 k = true := fun h => absurd (of_decide_eq_true h) ‹_›
            refine cond_f rfl (dF hc524) ?_
            refine skip (blk_n (thn_n (region (oM hH523 rfl rfl ?_))))
            refine ops_y hH523 rfl rfl (yv_add rfl rfl (by omega)) ?_
            refine oA hH523 rfl rfl (ops_nil ?_)
            have hH580 := (hH523.sub (sC sR))
            refine lp_n (k + 1, v_b11, lo_b11, hi_b11, v_b12, lo_b12, hi_b12, u517, lo519, hi520) (uC rfl (uC rfl (uC rfl (uC rfl (uC rfl (uC rfl (uC rfl (uC rfl (uC rfl (uC rfl (Sub.nil _))))))))))) ?_ ?_
            ·exact ⟨(Heap.recast (n := 0) (Heap.recast (n := 1) (Heap.recast (n := 2) hH580 rfl ((by first | exact B.sel_t hp1 | exact B.sel_f hp1))) rfl ((by first | exact B.sel_t hp2 | exact B.sel_f hp2))) rfl ((by first | exact B.sel_t hq1 | exact B.sel_f hq1))), by omega⟩
            ·first | (dsimp only; omega) | (show _ < _; omega)
   ·skip
    refine cond_f rfl (dF hc21) ?_
    refine exit (thn_x (lp_x (blk_here (thn_n (seq ?_)))))
    have hke : k = l.length := by omega
    have hs1 : (B.sel (bit32 o1) l k).Sublist l := B.sel_sub hk
    have hs2 : (B.sel (bit32 o2) l k).Sublist l := B.sel_sub hk
    have hs3 : (B.sel (nbit32 o1) l k).Sublist l := B.sel_sub hk
    have hkk1 := B.ck_sub hc0 hs1
    have hkk3 := B.ck_sub hc0 hs3
    have hus : (B.un l (B.sel (bit32 o1) l k) (B.sel (bit32 o2) l k)).Sublist l := B.un_sub
    have hul := hus.length_le
    have hj1 : B.joinR (B.sel (bit32 o1) l k) (B.sel (bit32 o2) l k) = ((B.un l (B.sel (bit32 o1) l k) (B.sel (bit32 o2) l k)), 0) := B.join_sub hc0 hs1 hs2
    have hj2 : B.joinR (B.sel (bit32 o2) l k) (B.sel (bit32 o1) l k) = ((B.un l (B.sel (bit32 o1) l k) (B.sel (bit32 o2) l k)), 0) := by rw [B.join_sub hc0 hs2 hs1, B.un_comm]
    have hj3 : B.joinR (B.sel (nbit32 o1) l k) (B.sel (bit32 o1) l k) = (l, 0) := by rw [B.join_sub hc0 hs3 hs1, B.un_all (by rw [hke]; exact B.sel_all (fun i => by unfold nbit32; cases bit32 o1 i <;> simp))]
    have hj4 : B.joinR l l = (l, 0) := by rw [B.join_sub hc0 (List.Sublist.refl l) (List.Sublist.refl l), B.un_all (fun e he => .inl he)]
    have hj5 : B.joinR l [] = (l, 0) := by rw [B.join_sub hc0 (List.Sublist.refl l) (List.nil_sublist l), B.un_all (fun e he => .inl he)]
    have hj6 : B.joinR l (B.un l (B.sel (bit32 o1) l k) (B.sel (bit32 o2) l k)) = (l, 0) := by rw [B.join_sub hc0 (List.Sublist.refl l) hus, B.un_all (fun e he => .inl he)]
    refine region ?_
    refine ops_y hH20 rfl rfl (yv_loadA (cs := [v_b11]) T.agg24 rfl rfl (fun _ hw => Heap.cellsw hw (n := 5) rfl (k := 0) rfl)) ?_
    refine ops_y hH20 rfl rfl (yv_loadA (cs := [v_b12]) T.agg24 rfl rfl (fun _ hw => Heap.cellsw hw (n := 4) rfl (k := 0) rfl)) ?_
    refine op_fn rfl rfl rfl hH20 ((by have h := c36 (Heap.rdw T.el22_encE hH20 (n := 2) rfl) (Heap.rdw T.el22_encE hH20 (n := 1) rfl) (by omega) (by first | omega | (simp only [List.length_nil]; omega)); simp only [hj1] at h; exact h)) (fun u583 w581 lo584 hi585 hH582 hv586 => ?_)
    obtain ⟨bp587, hu, -⟩ := hv586
    subst hu
    have hH588 := Heap.weak (ψ := Rd encE 5 bp587 (B.un l (B.sel (bit32 o1) l k) (B.sel (bit32 o2) l k))) hH582 (n := 0) rfl (fun w' h => (by obtain ⟨p', e, h⟩ := h; rw [agg_slice e]; exact h))
    refine oM hH588 rfl rfl (ops_y hH588 rfl rfl (yv_extract rfl rfl) (ops_y hH588 rfl rfl (yv_extract rfl rfl) ?_))
    refine op_alloc (z := (.agg #[(.slice none 0 0)])) (us := [(.slice none 0 0)]) (fun _ => by kernel_rfl) rfl rfl hH588 (fun b589 w590 hH591 => ?_)
    refine op_store (n := 0) (j := 0) (us := [bp587]) rfl rfl hH591 rfl T.sz24 rfl rfl rfl (all_one (SliceIs.one1 ((show Rd encE 5 bp587 (B.un l (B.sel (bit32 o1) l k) (B.sel (bit32 o2) l k)) _ from hH591.get (n := 1) rfl)).is) rfl) (fun w592 hH593 => ?_)
    refine oA hH593 rfl rfl (ops_nil (thn_n (seq (region ?_))))
    refine ops_y hH593 rfl rfl (yv_loadA (cs := [v_b12]) T.agg24 rfl rfl (fun _ hw => Heap.cellsw hw (n := 6) rfl (k := 0) rfl)) ?_
    refine ops_y hH593 rfl rfl (yv_loadA (cs := [v_b11]) T.agg24 rfl rfl (fun _ hw => Heap.cellsw hw (n := 7) rfl (k := 0) rfl)) ?_
    refine op_fn rfl rfl rfl hH593 ((by have h := c36 (Heap.rdw T.el22_encE hH593 (n := 3) rfl) (Heap.rdw T.el22_encE hH593 (n := 4) rfl) (by omega) (by first | omega | (simp only [List.length_nil]; omega)); simp only [hj2] at h; exact h)) (fun u596 w594 lo597 hi598 hH595 hv599 => ?_)
    obtain ⟨bp600, hu, -⟩ := hv599
    subst hu
    have hH601 := Heap.weak (ψ := Rd encE 5 bp600 (B.un l (B.sel (bit32 o1) l k) (B.sel (bit32 o2) l k))) hH595 (n := 0) rfl (fun w' h => (by obtain ⟨p', e, h⟩ := h; rw [agg_slice e]; exact h))
    refine oM hH601 rfl rfl (ops_y hH601 rfl rfl (yv_extract rfl rfl) (ops_y hH601 rfl rfl (yv_extract rfl rfl) ?_))
    refine op_alloc (z := (.agg #[(.slice none 0 0)])) (us := [(.slice none 0 0)]) (fun _ => by kernel_rfl) rfl rfl hH601 (fun b602 w603 hH604 => ?_)
    refine op_store (n := 0) (j := 0) (us := [bp600]) rfl rfl hH604 rfl T.sz24 rfl rfl rfl (all_one (SliceIs.one1 ((show Rd encE 5 bp600 (B.un l (B.sel (bit32 o1) l k) (B.sel (bit32 o2) l k)) _ from hH604.get (n := 1) rfl)).is) rfl) (fun w605 hH606 => ?_)
    refine oA hH606 rfl rfl (ops_nil (thn_n (seq (region ?_))))
    refine ops_y hH606 rfl rfl (yv_loadA (cs := [v_b13]) T.agg24 rfl rfl (fun _ hw => Heap.cellsw hw (n := 7) rfl (k := 0) rfl)) ?_
    refine ops_y hH606 rfl rfl (yv_loadA (cs := [v_b11]) T.agg24 rfl rfl (fun _ hw => Heap.cellsw hw (n := 9) rfl (k := 0) rfl)) ?_
    refine op_fn rfl rfl rfl hH606 ((by have h := c36 (Heap.rdw T.el22_encE hH606 (n := 4) rfl) (Heap.rdw T.el22_encE hH606 (n := 6) rfl) (by omega) (by first | omega | (simp only [List.length_nil]; omega)); simp only [hj3] at h; exact h)) (fun u609 w607 lo610 hi611 hH608 hv612 => ?_)
    obtain ⟨bp613, hu, -⟩ := hv612
    subst hu
    have hH614 := Heap.weak (ψ := Rd encE 5 bp613 l) hH608 (n := 0) rfl (fun w' h => (by obtain ⟨p', e, h⟩ := h; rw [agg_slice e]; exact h))
    refine oM hH614 rfl rfl (ops_y hH614 rfl rfl (yv_extract rfl rfl) (ops_y hH614 rfl rfl (yv_extract rfl rfl) ?_))
    refine op_alloc (z := (.agg #[(.slice none 0 0)])) (us := [(.slice none 0 0)]) (fun _ => by kernel_rfl) rfl rfl hH614 (fun b615 w616 hH617 => ?_)
    refine op_store (n := 0) (j := 0) (us := [bp613]) rfl rfl hH617 rfl T.sz24 rfl rfl rfl (all_one (SliceIs.one1 ((show Rd encE 5 bp613 l _ from hH617.get (n := 1) rfl)).is) rfl) (fun w618 hH619 => ?_)
    refine oA hH619 rfl rfl (ops_nil (thn_n (seq (region ?_))))
    refine ops_y hH619 rfl rfl (yv_loadA (cs := [v]) T.agg24 rfl rfl (fun _ hw => Heap.cellsw hw (n := 12) rfl (k := 0) rfl)) ?_
    refine ops_y hH619 rfl rfl (yv_loadA (cs := [v]) T.agg24 rfl rfl (fun _ hw => Heap.cellsw hw (n := 12) rfl (k := 0) rfl)) ?_
    refine op_fn rfl rfl rfl hH619 ((by have h := c36 (h0.now hH619 (n := 13) rfl) (h0.now hH619 (n := 13) rfl) (by omega) (by first | omega | (simp only [List.length_nil]; omega)); simp only [hj4] at h; exact h)) (fun u622 w620 lo623 hi624 hH621 hv625 => ?_)
    obtain ⟨bp626, hu, -⟩ := hv625
    subst hu
    have hH627 := Heap.weak (ψ := Rd encE 5 bp626 l) hH621 (n := 0) rfl (fun w' h => (by obtain ⟨p', e, h⟩ := h; rw [agg_slice e]; exact h))
    refine oM hH627 rfl rfl (ops_y hH627 rfl rfl (yv_extract rfl rfl) (ops_y hH627 rfl rfl (yv_extract rfl rfl) ?_))
    refine op_alloc (z := (.agg #[(.slice none 0 0)])) (us := [(.slice none 0 0)]) (fun _ => by kernel_rfl) rfl rfl hH627 (fun b628 w629 hH630 => ?_)
    refine op_store (n := 0) (j := 0) (us := [bp626]) rfl rfl hH630 rfl T.sz24 rfl rfl rfl (all_one (SliceIs.one1 ((show Rd encE 5 bp626 l _ from hH630.get (n := 1) rfl)).is) rfl) (fun w631 hH632 => ?_)
    refine oA hH632 rfl rfl (ops_nil (thn_n (seq (region ?_))))
    refine ops_y hH632 rfl rfl (yv_loadA (cs := [v]) T.agg24 rfl rfl (fun _ hw => Heap.cellsw hw (n := 14) rfl (k := 0) rfl)) ?_
    refine ops_y hH632 rfl rfl (yv_build (v := (.agg #[(.slice none 0 0)])) (us := []) (fun a ha => by simp []) (fun w => by kernel_rfl)) ?_
    refine op_fn rfl rfl rfl hH632 ((by have h := c36 (h0.now hH632 (n := 15) rfl) Rd.nil (by omega) (by first | omega | (simp only [List.length_nil]; omega)); simp only [hj5] at h; exact h)) (fun u635 w633 lo636 hi637 hH634 hv638 => ?_)
    obtain ⟨bp639, hu, -⟩ := hv638
    subst hu
    have hH640 := Heap.weak (ψ := Rd encE 5 bp639 l) hH634 (n := 0) rfl (fun w' h => (by obtain ⟨p', e, h⟩ := h; rw [agg_slice e]; exact h))
    refine oM hH640 rfl rfl (ops_y hH640 rfl rfl (yv_extract rfl rfl) (ops_y hH640 rfl rfl (yv_extract rfl rfl) ?_))
    refine op_alloc (z := (.agg #[(.slice none 0 0)])) (us := [(.slice none 0 0)]) (fun _ => by kernel_rfl) rfl rfl hH640 (fun b641 w642 hH643 => ?_)
    refine op_store (n := 0) (j := 0) (us := [bp639]) rfl rfl hH643 rfl T.sz24 rfl rfl rfl (all_one (SliceIs.one1 ((show Rd encE 5 bp639 l _ from hH643.get (n := 1) rfl)).is) rfl) (fun w644 hH645 => ?_)
    refine oA hH645 rfl rfl (ops_nil (thn_n (seq (region ?_))))
    refine ops_y hH645 rfl rfl (yv_loadA (cs := [v]) T.agg24 rfl rfl (fun _ hw => Heap.cellsw hw (n := 16) rfl (k := 0) rfl)) ?_
    refine ops_y hH645 rfl rfl (yv_loadA (cs := [bp587]) T.agg24 rfl rfl (fun _ hw => Heap.cellsw hw (n := 8) rfl (k := 0) rfl)) ?_
    refine op_fn rfl rfl rfl hH645 ((by have h := c36 (h0.now hH645 (n := 17) rfl) ((show Rd encE 5 bp587 (B.un l (B.sel (bit32 o1) l k) (B.sel (bit32 o2) l k)) _ from hH645.get (n := 9) rfl)) (by omega) (by first | omega | (simp only [List.length_nil]; omega)); simp only [hj6] at h; exact h)) (fun u648 w646 lo649 hi650 hH647 hv651 => ?_)
    obtain ⟨bp652, hu, -⟩ := hv651
    subst hu
    have hH653 := Heap.weak (ψ := Rd encE 5 bp652 l) hH647 (n := 0) rfl (fun w' h => (by obtain ⟨p', e, h⟩ := h; rw [agg_slice e]; exact h))
    refine oM hH653 rfl rfl (ops_y hH653 rfl rfl (yv_extract rfl rfl) (ops_y hH653 rfl rfl (yv_extract rfl rfl) ?_))
    refine op_alloc (z := (.agg #[(.slice none 0 0)])) (us := [(.slice none 0 0)]) (fun _ => by kernel_rfl) rfl rfl hH653 (fun b654 w655 hH656 => ?_)
    refine op_store (n := 0) (j := 0) (us := [bp652]) rfl rfl hH656 rfl T.sz24 rfl rfl rfl (all_one (SliceIs.one1 ((show Rd encE 5 bp652 l _ from hH656.get (n := 1) rfl)).is) rfl) (fun w657 hH658 => ?_)
    refine oA hH658 rfl rfl (ops_nil (thn_n (seq (seq (region (oM hH658 rfl rfl ?_))))))
    refine ops_y hH658 rfl rfl (yv_neq rfl rfl) ?_
    refine oM hH658 rfl rfl (guard_yes rfl rfl rfl (oM hH658 rfl rfl (guard_yes rfl rfl rfl ?_)))
    refine ops_y hH658 rfl rfl (yv_neq rfl rfl) ?_
    refine ops_y hH658 rfl rfl (yv_pick_f rfl rfl rfl) ?_
    refine oM hH658 rfl rfl (guard_yes rfl rfl rfl (oM hH658 rfl rfl (guard_yes rfl rfl rfl ?_)))
    refine ops_y hH658 rfl rfl (yv_neq rfl rfl) ?_
    refine ops_y hH658 rfl rfl (yv_pick_f rfl rfl rfl) ?_
    refine oM hH658 rfl rfl (guard_yes rfl rfl rfl (oM hH658 rfl rfl (guard_yes rfl rfl rfl ?_)))
    refine ops_y hH658 rfl rfl (yv_neq rfl rfl) ?_
    refine ops_y hH658 rfl rfl (yv_pick_f rfl rfl rfl) ?_
    refine oM hH658 rfl rfl (guard_yes rfl rfl rfl (oM hH658 rfl rfl (guard_yes rfl rfl rfl ?_)))
    refine ops_y hH658 rfl rfl (yv_neq rfl rfl) ?_
    refine ops_y hH658 rfl rfl (yv_pick_f rfl rfl rfl) ?_
    refine oM hH658 rfl rfl (guard_yes rfl rfl rfl (oM hH658 rfl rfl (guard_yes rfl rfl rfl ?_)))
    refine ops_y hH658 rfl rfl (yv_neq rfl rfl) ?_
    refine ops_y hH658 rfl rfl (yv_pick_f rfl rfl rfl) ?_
    refine oM hH658 rfl rfl (guard_yes rfl rfl rfl ?_)
    refine ops_y hH658 rfl rfl (yv_loadA (cs := [bp587]) T.agg24 rfl rfl (fun _ hw => Heap.cellsw hw (n := 10) rfl (k := 0) rfl)) ?_
    refine guard_yes rfl rfl rfl ?_
    refine ops_y hH658 rfl rfl (yv_loadA (cs := [bp600]) T.agg24 rfl rfl (fun _ hw => Heap.cellsw hw (n := 8) rfl (k := 0) rfl)) ?_
    refine guard_yes rfl rfl rfl ?_
    refine op_fnV rfl rfl rfl hH658 (c42 ((show Rd encE 5 bp587 (B.un l (B.sel (bit32 o1) l k) (B.sel (bit32 o2) l k)) _ from hH658.get (n := 11) rfl)) ((show Rd encE 5 bp600 (B.un l (B.sel (bit32 o1) l k) (B.sel (bit32 o2) l k)) _ from hH658.get (n := 9) rfl)) (by omega) (by omega)) (fun w659 hH660 => ?_)
    refine guard_yes rfl rfl rfl ?_
    refine ops_y hH660 rfl rfl (yv_not rfl) ?_
    refine ops_y hH660 rfl rfl (yv_pick_f rfl rfl rfl) ?_
    refine oM hH660 rfl rfl ?_
    refine guard_yes rfl rfl (bnot_f (dT rfl)) ?_
    refine ops_y hH660 rfl rfl (yv_loadA (cs := [bp613]) T.agg24 rfl rfl (fun _ hw => Heap.cellsw hw (n := 6) rfl (k := 0) rfl)) ?_
    refine guard_yes rfl rfl (bnot_f (dT rfl)) ?_
    refine ops_y hH660 rfl rfl (yv_loadA (cs := [v]) T.agg24 rfl rfl (fun _ hw => Heap.cellsw hw (n := 18) rfl (k := 0) rfl)) ?_
    refine guard_yes rfl rfl (bnot_f (dT rfl)) ?_
    refine op_fnV rfl rfl rfl hH660 (c42 ((show Rd encE 5 bp613 l _ from hH660.get (n := 7) rfl)) (h0.now hH660 (n := 19) rfl) (by omega) (by omega)) (fun w661 hH662 => ?_)
    refine guard_yes rfl rfl (bnot_f (dT rfl)) ?_
    refine ops_y hH662 rfl rfl (yv_not rfl) ?_
    refine ops_y hH662 rfl rfl (yv_pick_f rfl (bnot_f (dT rfl)) rfl) ?_
    refine oM hH662 rfl rfl ?_
    refine guard_yes rfl rfl (bnot_f (dT rfl)) ?_
    refine ops_y hH662 rfl rfl (yv_loadA (cs := [bp626]) T.agg24 rfl rfl (fun _ hw => Heap.cellsw hw (n := 4) rfl (k := 0) rfl)) ?_
    refine guard_yes rfl rfl (bnot_f (dT rfl)) ?_
    refine ops_y hH662 rfl rfl (yv_loadA (cs := [v]) T.agg24 rfl rfl (fun _ hw => Heap.cellsw hw (n := 18) rfl (k := 0) rfl)) ?_
    refine guard_yes rfl rfl (bnot_f (dT rfl)) ?_
    refine op_fnV rfl rfl rfl hH662 (c42 ((show Rd encE 5 bp626 l _ from hH662.get (n := 5) rfl)) (h0.now hH662 (n := 19) rfl) (by omega) (by omega)) (fun w663 hH664 => ?_)
    refine guard_yes rfl rfl (bnot_f (dT rfl)) ?_
    refine ops_y hH664 rfl rfl (yv_not rfl) ?_
    refine ops_y hH664 rfl rfl (yv_pick_f rfl (bnot_f (dT rfl)) rfl) ?_
    refine oM hH664 rfl rfl ?_
    refine guard_yes rfl rfl (bnot_f (dT rfl)) ?_
    refine ops_y hH664 rfl rfl (yv_loadA (cs := [bp639]) T.agg24 rfl rfl (fun _ hw => Heap.cellsw hw (n := 2) rfl (k := 0) rfl)) ?_
    refine guard_yes rfl rfl (bnot_f (dT rfl)) ?_
    refine ops_y hH664 rfl rfl (yv_loadA (cs := [v]) T.agg24 rfl rfl (fun _ hw => Heap.cellsw hw (n := 18) rfl (k := 0) rfl)) ?_
    refine guard_yes rfl rfl (bnot_f (dT rfl)) ?_
    refine op_fnV rfl rfl rfl hH664 (c42 ((show Rd encE 5 bp639 l _ from hH664.get (n := 3) rfl)) (h0.now hH664 (n := 19) rfl) (by omega) (by omega)) (fun w665 hH666 => ?_)
    refine guard_yes rfl rfl (bnot_f (dT rfl)) ?_
    refine ops_y hH666 rfl rfl (yv_not rfl) ?_
    refine ops_y hH666 rfl rfl (yv_pick_f rfl (bnot_f (dT rfl)) rfl) ?_
    refine oM hH666 rfl rfl ?_
    refine guard_yes rfl rfl (bnot_f (dT rfl)) ?_
    refine ops_y hH666 rfl rfl (yv_loadA (cs := [bp652]) T.agg24 rfl rfl (fun _ hw => Heap.cellsw hw (n := 0) rfl (k := 0) rfl)) ?_
    refine guard_yes rfl rfl (bnot_f (dT rfl)) ?_
    refine ops_y hH666 rfl rfl (yv_loadA (cs := [v]) T.agg24 rfl rfl (fun _ hw => Heap.cellsw hw (n := 18) rfl (k := 0) rfl)) ?_
    refine guard_yes rfl rfl (bnot_f (dT rfl)) ?_
    refine op_fnV rfl rfl rfl hH666 (c42 ((show Rd encE 5 bp652 l _ from hH666.get (n := 1) rfl)) (h0.now hH666 (n := 19) rfl) (by omega) (by omega)) (fun w667 hH668 => ?_)
    refine guard_yes rfl rfl (bnot_f (dT rfl)) ?_
    refine ops_y hH668 rfl rfl (yv_not rfl) ?_
    refine ops_y hH668 rfl rfl (yv_pick_f rfl (bnot_f (dT rfl)) rfl) ?_
    refine ops_nil (thn_n ?_)
    refine cond_f rfl (bnot_f (dT rfl)) ?_
    refine skip (thn_n (seq ?_))
    obtain ⟨t, ht⟩ : ∃ t : Nat, (t : Int) = b % 10 := ⟨(b % 10).toNat, Int.toNat_of_nonneg (Int.emod_nonneg _ (by omega))⟩
    have htl : t < 10 := by omega
    have hb1 : B.balR l (t : Int) d = (B.bal l (t : Int) d, 0) := B.bal3 hc0 (by omega)
    have hb2 : B.balR (B.sel (bit32 o1) l k) (t : Int) d = (B.bal (B.sel (bit32 o1) l k) (t : Int) d, 0) := B.bal3 hkk1 (by omega)
    have hb3 : B.balR (B.sel (nbit32 o1) l k) (t : Int) d = (B.bal (B.sel (nbit32 o1) l k) (t : Int) d, 0) := B.bal3 hkk3 (by omega)
    have hbb2 := B.bal24 hkk1 (t : Int) d
    have hbb3 := B.bal24 hkk3 (t : Int) d
    have hbp : B.bal l (t : Int) d = B.bal (B.sel (bit32 o1) l k) (t : Int) d + B.bal (B.sel (nbit32 o1) l k) (t : Int) d := by rw [hke]; exact B.bal_parts (fun i => rfl)
    refine region (oM hH668 rfl rfl ?_)
    refine ops_y hH668 rfl rfl (yv_conv Tryz.underlying5 Tryz.underlying2 rfl (wrap_i64 (by omega))) ?_
    refine ops_y hH668 rfl rfl (yv_cast (show _ = (t : Int) from ht.symm) (yv_rem rfl rfl (by omega) (by omega))) ?_
    refine oA hH668 rfl rfl (ops_nil (thn_n (seq (region ?_))))
    refine ops_y hH668 rfl rfl (yv_loadA (cs := [v]) T.agg24 rfl rfl (fun _ hw => Heap.cellsw hw (n := 18) rfl (k := 0) rfl)) ?_
    refine oM hH668 rfl rfl (oM hH668 rfl rfl ?_)
    refine op_fnV rfl rfl rfl hH668 ((by have h := c19 (a := (t : Int)) (d := d) (h0.now hH668 (n := 19) rfl) (by omega) (hG.now hH668 (n := 19) rfl); simp only [hb1] at h; exact h)) (fun w669 hH670 => ?_)
    refine oM hH670 rfl rfl (ops_y hH670 rfl rfl (yv_extract rfl rfl) (ops_y hH670 rfl rfl (yv_extract rfl rfl) (oA hH670 rfl rfl (oA hH670 rfl rfl (ops_nil (thn_n (seq (region ?_))))))))
    refine ops_y hH670 rfl rfl (yv_loadA (cs := [v_b11]) T.agg24 rfl rfl (fun _ hw => Heap.cellsw hw (n := 17) rfl (k := 0) rfl)) ?_
    refine oM hH670 rfl rfl (oM hH670 rfl rfl ?_)
    refine op_fnV rfl rfl rfl hH670 ((by have h := c19 (a := (t : Int)) (d := d) (Heap.rdw T.el22_encE hH670 (n := 14) rfl) (by omega) (hG.now hH670 (n := 19) rfl); simp only [hb2] at h; exact h)) (fun w671 hH672 => ?_)
    refine oM hH672 rfl rfl (ops_y hH672 rfl rfl (yv_extract rfl rfl) (ops_y hH672 rfl rfl (yv_extract rfl rfl) (oA hH672 rfl rfl (oA hH672 rfl rfl (ops_nil (thn_n (seq (region ?_))))))))
    refine ops_y hH672 rfl rfl (yv_loadA (cs := [v_b13]) T.agg24 rfl rfl (fun _ hw => Heap.cellsw hw (n := 15) rfl (k := 0) rfl)) ?_
    refine oM hH672 rfl rfl (oM hH672 rfl rfl ?_)
    refine op_fnV rfl rfl rfl hH672 ((by have h := c19 (a := (t : Int)) (d := d) (Heap.rdw T.el22_encE hH672 (n := 12) rfl) (by omega) (hG.now hH672 (n := 19) rfl); simp only [hb3] at h; exact h)) (fun w673 hH674 => ?_)
    refine oM hH674 rfl rfl (ops_y hH674 rfl rfl (yv_extract rfl rfl) (ops_y hH674 rfl rfl (yv_extract rfl rfl) (oA hH674 rfl rfl (oA hH674 rfl rfl (ops_nil (thn_n (seq (region (oM hH674 rfl rfl ?_)))))))))
    refine ops_y hH674 rfl rfl (yv_eql rfl rfl) ?_
    refine oM hH674 rfl rfl (guard_yes rfl rfl rfl (oM hH674 rfl rfl (guard_yes rfl rfl rfl ?_)))
    refine ops_y hH674 rfl rfl (yv_eql rfl rfl) ?_
    refine ops_y hH674 rfl rfl (yv_pick_t rfl rfl rfl) ?_
    refine oM hH674 rfl rfl (guard_yes rfl rfl rfl (oM hH674 rfl rfl (guard_yes rfl rfl rfl ?_)))
    refine ops_y hH674 rfl rfl (yv_eql rfl rfl) ?_
    refine ops_y hH674 rfl rfl (yv_pick_t rfl rfl rfl) ?_
    refine oM hH674 rfl rfl (guard_yes rfl rfl rfl (oM hH674 rfl rfl (guard_yes rfl rfl rfl (oM hH674 rfl rfl (guard_yes rfl rfl rfl (oM hH674 rfl rfl (guard_yes rfl rfl rfl ?_)))))))
    refine ops_y hH674 rfl rfl (yv_add rfl rfl (by omega)) ?_
    refine guard_yes rfl rfl rfl ?_
    refine ops_y hH674 rfl rfl (yv_eql rfl rfl) ?_
    refine ops_y hH674 rfl rfl (yv_pick_t rfl rfl rfl) ?_
    refine oM hH674 rfl rfl ?_
    by_cases hc675 : (B.bal l (t : Int) d) = ((B.bal (B.sel (bit32 o1) l k) (t : Int) d) + (B.bal (B.sel (nbit32 o1) l k) (t : Int) d))
    ·skip
     refine guard_yes rfl rfl (dT hc675) ?_
     refine op_fnV rfl rfl rfl hH674 (c18 (hG.now hH674 (n := 19) rfl)) (fun w676 hH677 => ?_)
     refine ops_y hH677 rfl rfl (yv_pick_t rfl (dT hc675) rfl) ?_
     refine oA hH677 rfl rfl (ops_nil (thn_n (ret ?_)))
     have hH678 := (hH677.sub (sC (sC (sC (sC (sC (sC (sC (sC (sC (sC (sC (sC (sC (sC (sC (sC (sC (sC (sC sR))))))))))))))))))))
     refine fin hH678 (fun w' hf => (res1 rfl (show RV _ _ _ (.tmp 10) _ from rfl))) (fun w' hf => ?_)
     first | rfl | contradiction | (exfalso; omega)
    ·skip
     refine guard_no rfl rfl (dF hc675) rfl ?_
     refine ops_y hH674 rfl rfl (yv_pick_f rfl (dF hc675) rfl) ?_
     refine oA hH674 rfl rfl (ops_nil (thn_n (ret ?_)))
     have hH679 := (hH674.sub (sC (sC (sC (sC (sC (sC (sC (sC (sC (sC (sC (sC (sC (sC (sC (sC (sC (sC (sC sR))))))))))))))))))))
     refine fin hH679 (fun w' hf => (res1 rfl (show RV _ _ _ (.tmp 10) _ from rfl))) (fun w' hf => ?_)
     first | rfl | contradiction | (exfalso; omega)
 ·skip
  refine cond_t rfl (not_decide_t hc6) ?_
  refine seq (region ?_)
  refine op_fnV rfl rfl rfl hH5 (c18 (hG.now hH5 (n := 1) rfl)) (fun w680 hH681 => ?_)
  refine oA hH681 rfl rfl (ops_nil (thn_n (ret (thn_r ?_))))
  have hH682 := (hH681.sub (sC sR))
  refine fin hH682 (fun w' hf => (res1 rfl (show RV _ _ _ (.tmp 10) _ from rfl))) (fun w' hf => ?_)
  first | rfl | contradiction | (exfalso; omega)
end Go.Fip
