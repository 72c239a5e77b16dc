/- Walks of the law, and what it alone needs, by program (wip/tools). -/
import Derived.Test.YtfomadbnfcadnaaGreatDoorMJ
set_option linter.unusedVariables false
set_option linter.unusedSimpArgs false
set_option linter.unusedSectionVars false
set_option linter.unnecessarySimpa false
namespace Go.Fip
open Go.ChangeShapes Go.WideShapes Go.ChangeAt Go.RowKit
section
variable {H : Type} {enc : TypeId × Value → H} {P : Program} {w : World}
theorem trodAll_below (hl : laidOutB P = true) {W W' : World} (hb : Below W.heap.size W W') : ∀ (ts : List TypeId) (vs : List Value) (ds : List (DataW H)) (ps : List MemPlace), (ts.all fun t => P.readableRec t && decide (t < P.types.size)) = true →
    DataW.TrodAll enc P W 0 (fun _ => true) true ts vs ds ps → (∀ x ∈ ps, x.block < W.heap.size) → DataW.TrodAll enc P W' 0 (fun b => decide (b < W.heap.size)) true ts vs ds ps
  | [], vs, ds, ps, _, h, _ => by
    obtain ⟨rfl, rfl, rfl⟩ := trodAll_nil h
    rfl
  | t :: ts, vs, ds, ps, hr, h, hlt => by
    obtain ⟨v, vs, d, ds, p, q, rfl, rfl, rfl, h1, h2⟩ := trodAll_cons h
    simp only [List.all_cons, Bool.and_eq_true, decide_eq_true_eq] at hr
    exact ⟨p, q, Below.trod hl hr.1.1 hr.1.2 h1 hb (fun x hx => hlt x (List.mem_append_left _ hx)), trodAll_below hl hb ts vs ds q (by simpa using hr.2) h2 (fun x hx => hlt x (List.mem_append_right _ hx)), rfl⟩
theorem law_post {f : Func} {s : ChangeSpec} {apart fresh : Bool} {W W' : World} {args : Array Value} {ds : List (DataW H)} {before p : List MemPlace} {tb : TypeId} (hl : laidOutB P = true) (hb : Below W.heap.size W W')
    (hr : (f.params.toList.all fun t => P.readableRec t && decide (t < P.types.size)) = true) (hv : s.vars = []) (hW : DataW.Whole enc P f.params.toList s.vars apart W args.toList ds [] before)
    (hA : DataW.TrodAll enc P W 0 (fun _ => true) true f.params.toList args.toList ds p) (hp : before = p) (hrt : f.resultTypes = #[tb]) (htb : P.underlying tb = some .bool) (hs : s.fn H (ds ++ []) = { results := [.lit (.bool true)], args := ds }) :
    s.post enc P f apart fresh false false W args (.bool true) W' := by
  subst hp
  refine ⟨ds, [], before, [], before, [], hW, ?_, ?_, ?_, Below.frame hb _, fun h => by cases h⟩
  · rw [hs, hrt]; exact trodAll_mk1 (shut_bool htb _)
  · rw [hs]; exact trodAll_below hl hb _ _ _ _ hr hA (fun x hx => by simpa using hW.lt x hx)
  · rw [hs, hv]; rfl
end
end Go.Fip
namespace Go.Fip
open Go.Proofs Go.RowKit
theorem B.loadR_bd {l : List UInt8} : (B.loadR l).1.length ≤ 24 := by
 unfold B.loadR
 split
 ·simp
 split
 ·simp
 split
 ·simp
 split
 ·simp
 split
 ·simp
 split
 ·simp
 ·have := (B.ck_iff.1 (Decidable.not_not.1 ‹¬ ¬ B.ck (B.esOf (B.sp 10 l)) = 0›)).1; exact this
end Go.Fip
namespace Go.Fip.B
open Go.Fip
def inj (l : List (List UInt8)) : Prop := ∀ x ∈ l, ∀ y ∈ l, sm x = sm y → x = y
theorem inj.sub {l m : List (List UInt8)} (h : inj m) (hs : ∀ x ∈ l, x ∈ m) : inj l := fun x hx y hy e => h x (hs x hx) y (hs y hy) e
end Go.Fip.B
namespace Go.Fip.B
open Go.Fip
theorem inR_mem {l : List En} (h : InR l) : ∀ e ∈ l, isEn e := fun e he => by
  obtain ⟨i, hi, rfl⟩ := List.getElem_of_mem he
  have := h i hi
  rwa [nth_nat hi] at this
end Go.Fip.B
namespace Go.Fip.B
open Go.Fip
theorem sp_none {c : UInt8} : ∀ {x : List UInt8}, (∀ b ∈ x, ¬ b = c) → sp c x = [x]
  | [], _ => rfl
  | b :: x, h => by
    have ih := sp_none (c := c) (x := x) (fun d hd => h d (List.mem_cons_of_mem _ hd))
    unfold sp
    rw [if_neg (h b (List.mem_cons_self ..)), ih]; rfl
theorem sp_part {c : UInt8} {y : List UInt8} : ∀ {x : List UInt8}, (∀ b ∈ x, ¬ b = c) → sp c (x ++ c :: y) = x :: sp c y
  | [], _ => by
    show sp c (c :: y) = _
    conv => lhs; unfold sp
    rw [if_pos rfl]
  | b :: x, h => by
    have ih := sp_part (c := c) (y := y) (x := x) (fun d hd => h d (List.mem_cons_of_mem _ hd))
    show sp c (b :: (x ++ c :: y)) = _
    conv => lhs; unfold sp
    rw [if_neg (h b (List.mem_cons_self ..)), ih]; rfl
def glue (c : UInt8) : List (List UInt8) → List UInt8
  | [] => []
  | [p] => p
  | p :: q :: ps => p ++ c :: glue c (q :: ps)
theorem glue_cons {c : UInt8} {p : List UInt8} {ps : List (List UInt8)} (h : ps ≠ []) : glue c (p :: ps) = p ++ c :: glue c ps := by
  cases ps with
  | nil => exact absurd rfl h
  | cons q qs => rfl
theorem glue_sp (c : UInt8) : ∀ l : List UInt8, glue c (sp c l) = l
  | [] => rfl
  | x :: l => by
    have ih := glue_sp c l
    unfold sp
    split
    · rename_i h
      rw [glue_cons (sp_ne c l), ih, h]; rfl
    · have hh := sp_head c l
      cases ht : (sp c l).tail with
      | nil =>
        rw [ht] at hh
        rw [← hh] at ih
        show x :: (sp c l).headD [] = _
        rw [show (sp c l).headD [] = l from ih]
      | cons q qs =>
        rw [ht] at hh
        rw [← hh] at ih
        show (x :: (sp c l).headD []) ++ c :: glue c (q :: qs) = _
        have ih2 : (sp c l).headD [] ++ c :: glue c (q :: qs) = l := ih
        rw [List.cons_append, ih2]
theorem dig_len_lt : ∀ (k n : Nat), 1 ≤ k → k ≤ 20 → n < 10 ^ k → (dig n).length ≤ k
  | 0, n, h, _, _ => by omega
  | k + 1, n, _, hk, hn => by
    by_cases h9 : n < 10
    · rw [dig_small h9]; simp
    · have h20 : n < 10 ^ 20 := Nat.lt_of_lt_of_le hn (Nat.pow_le_pow_right (by decide) hk)
      have hk1 : 1 ≤ k := by
        rcases Nat.eq_zero_or_pos k with h0 | h0
        · subst h0; omega
        · exact h0
      have ih := dig_len_lt k (n / 10) hk1 (by omega) (by rw [Nat.div_lt_iff_lt_mul (by decide)]; rw [Nat.pow_succ] at hn; exact hn)
      rw [dig_rec (by omega) h20, List.length_append]
      simp only [List.length_cons, List.length_nil]
      omega
theorem dig_hasnt {n : Nat} (h : n < 10 ^ 20) {c : UInt8} (hc : ¬ isD c) : ∀ b ∈ dig n, ¬ b = c := fun b hb e => hc (e ▸ (dig_dec h).2.1 b hb)
theorem n20 {e : En} (h : isEn e) : e.n.toNat < 10 ^ 13 ∧ e.d.toNat < 10 ^ 5 ∧ e.f.toNat < 10 ^ 1 ∧ e.t.toNat < 10 ^ 1 ∧ e.a.toNat < 10 ^ 7 := by
  unfold isEn at h
  have h1 : (10 : Nat) ^ 13 = 10000000000000 := by decide
  have h2 : (10 : Nat) ^ 5 = 100000 := by decide
  have h3 : (10 : Nat) ^ 1 = 10 := by decide
  have h4 : (10 : Nat) ^ 7 = 10000000 := by decide
  omega
theorem to20 {n k : Nat} (h : n < 10 ^ k) (hk : k ≤ 20) : n < 10 ^ 20 := Nat.lt_of_lt_of_le h (Nat.pow_le_pow_right (by decide) hk)
def fieldsE (e : En) : List (List UInt8) := [dig e.n.toNat, dig e.d.toNat, dig e.f.toNat, dig e.t.toNat, dig e.a.toNat]
theorem text_glue (e : En) : text e = glue 32 (fieldsE e) := by unfold text fieldsE glue; simp [glue]
theorem text31 {e : En} (h : isEn e) : (text e).length ≤ 31 := by
  obtain ⟨h1, h2, h3, h4, h5⟩ := n20 h
  have a1 := dig_len_lt 13 _ (by decide) (by decide) h1
  have a2 := dig_len_lt 5 _ (by decide) (by decide) h2
  have a3 := dig_len_lt 1 _ (by decide) (by decide) h3
  have a4 := dig_len_lt 1 _ (by decide) (by decide) h4
  have a5 := dig_len_lt 7 _ (by decide) (by decide) h5
  unfold text
  simp only [List.length_append, List.length_cons, List.length_nil]
  omega
theorem sp_text {e : En} (h : isEn e) : sp 32 (text e) = fieldsE e := by
  obtain ⟨h1, h2, h3, h4, h5⟩ := n20 h
  have hd : ¬ isD 32 := by decide
  have e1 : text e = dig e.n.toNat ++ 32 :: (dig e.d.toNat ++ 32 :: (dig e.f.toNat ++ 32 :: (dig e.t.toNat ++ 32 :: dig e.a.toNat))) := by unfold text; simp
  rw [e1, sp_part (dig_hasnt (to20 h1 (by decide)) hd), sp_part (dig_hasnt (to20 h2 (by decide)) hd), sp_part (dig_hasnt (to20 h3 (by decide)) hd), sp_part (dig_hasnt (to20 h4 (by decide)) hd), sp_none (dig_hasnt (to20 h5 (by decide)) hd)]
  rfl
theorem num_dig {n k : Nat} (h : n < 10 ^ k) (h1 : 1 ≤ k) (hk : k ≤ 18) : Num (dig n) := ⟨dig_dec (to20 h (by omega)), Nat.le_trans (dig_len_lt k n h1 (by omega) h) hk⟩
theorem entR_text {e : En} (h : isEn e) : entR (text e) = (e, true) := by
  obtain ⟨h1, h2, h3, h4, h5⟩ := n20 h
  have hi : IsEnt (sp 32 (text e)) := by
    rw [sp_text h]
    refine ⟨rfl, fun p hp => ?_⟩
    simp only [fieldsE, List.mem_cons, List.not_mem_nil, or_false] at hp
    rcases hp with rfl | rfl | rfl | rfl | rfl
    · exact num_dig h1 (by decide) (by decide)
    · exact num_dig h2 (by decide) (by decide)
    · exact num_dig h3 (by decide) (by decide)
    · exact num_dig h4 (by decide) (by decide)
    · exact num_dig h5 (by decide) (by decide)
  rw [entR_t hi, sp_text h]
  have hv : ∀ {n k : Nat}, n < 10 ^ k → k ≤ 20 → valI (dig n) = (n : Int) := fun hn hk => by unfold valI; rw [dig_val (to20 hn hk)]
  have e2 : enL ((fieldsE e).map valI) = e := by
    show (⟨valI (dig e.n.toNat), valI (dig e.d.toNat), valI (dig e.f.toNat), valI (dig e.t.toNat), valI (dig e.a.toNat)⟩ : En) = e
    rw [hv h1 (by decide), hv h2 (by decide), hv h3 (by decide), hv h4 (by decide), hv h5 (by decide)]
    unfold isEn at h
    cases e
    simp only [En.mk.injEq]
    simp only at h
    omega
  rw [e2]
theorem text_entR {p : List UInt8} (h : (entR p).2 = true) : text (entR p).1 = p := by
  by_cases hi : IsEnt (sp 32 p)
  · rw [entR_t hi]
    have hg := glue_sp 32 p
    obtain ⟨hl, hn⟩ := hi
    generalize sp 32 p = ps at hg hl hn
    match ps, hl with
    | [a, b, c, d, f], _ =>
      have hd : ∀ q ∈ [a, b, c, d, f], dig (val q) = q := fun q hq => dig_of_val (hn q hq).1 (by have := (hn q hq).2; omega)
      show text (enL ([valI a, valI b, valI c, valI d, valI f])) = p
      rw [text_glue]
      show glue 32 [dig (val a : Int).toNat, dig (val b : Int).toNat, dig (val c : Int).toNat, dig (val d : Int).toNat, dig (val f : Int).toNat] = p
      simp only [Int.toNat_natCast]
      rw [hd a (by simp), hd b (by simp), hd c (by simp), hd d (by simp), hd f (by simp)]
      exact hg
  · rw [entR_f hi] at h; cases h
theorem text_no {e : En} (h : isEn e) : ∀ b ∈ text e, ¬ b = 10 := fun b hb c => by
  subst c
  obtain ⟨h1, h2, h3, h4, h5⟩ := n20 h
  have hd : ¬ isD 10 := by decide
  unfold text at hb
  simp only [List.mem_append, List.mem_cons, List.not_mem_nil, or_false] at hb
  rcases hb with (((((((hb | hb) | hb) | hb) | hb) | hb) | hb) | hb) | hb
  · exact dig_hasnt (to20 h1 (by decide)) hd _ hb rfl
  · exact absurd hb (by decide)
  · exact dig_hasnt (to20 h2 (by decide)) hd _ hb rfl
  · exact absurd hb (by decide)
  · exact dig_hasnt (to20 h3 (by decide)) hd _ hb rfl
  · exact absurd hb (by decide)
  · exact dig_hasnt (to20 h4 (by decide)) hd _ hb rfl
  · exact absurd hb (by decide)
  · exact dig_hasnt (to20 h5 (by decide)) hd _ hb rfl
theorem sp_lns {t : List UInt8} : ∀ {l : List En}, (∀ e ∈ l, isEn e) → sp 10 (lns l ++ t) = l.map text ++ sp 10 t
  | [], _ => rfl
  | e :: l, h => by
    have ih := sp_lns (t := t) (l := l) (fun x hx => h x (List.mem_cons_of_mem _ hx))
    have e1 : lns (e :: l) ++ t = text e ++ 10 :: (lns l ++ t) := by unfold lns; simp
    rw [e1, sp_part (text_no (h e (List.mem_cons_self ..))), ih]; rfl
theorem hex_H (x : UInt64) : ∀ b ∈ hex x, isH b := by
  have key : ∀ (k n : Nat), ∀ b ∈ hexN k n, isH b := by
    intro k
    induction k with
    | zero => intro n b hb; simp [hexN] at hb
    | succ k ih =>
      intro n b hb
      rcases List.mem_append.1 hb with hb | hb
      · exact ih _ b hb
      · rw [List.mem_singleton] at hb
        subst hb
        unfold isH
        rw [hd_val]
        split <;> omega
  exact key 16 _
theorem sum_no (x : UInt64) : ∀ b ∈ sumw ++ hex x, ¬ b = 10 := fun b hb c => by
  subst c
  rcases List.mem_append.1 hb with hb | hb
  · exact absurd hb (by decide)
  · exact absurd (hex_H x _ hb) (by decide)
theorem sp_file {l : List En} (h : ∀ e ∈ l, isEn e) : sp 10 (fileT l) = l.map text ++ [sumw ++ hex (root l), []] := by
  have e1 : sp 10 ((sumw ++ hex (root l)) ++ 10 :: []) = [sumw ++ hex (root l), []] := (sp_part (sum_no (root l))).trans (by rw [show sp 10 [] = [[]] from rfl])
  exact (sp_lns h).trans (congrArg (fun z => l.map text ++ z) e1)
theorem hx_sum (x : UInt64) : Hx (sumw ++ hex x) := by
  refine ⟨by rw [List.length_append, hex_length]; rfl, ?_, ?_⟩
  · rw [List.take_append_of_le_length (by decide)]; rfl
  · intro b hb
    rw [List.drop_append_of_le_length (by decide)] at hb
    have : b ∈ hex x := by simpa [sumw] using hb
    exact hex_H x b this
theorem file_len {l : List En} (h : ck l = 0) : (fileT l).length ≤ 1000 := by
  obtain ⟨h24, hin, _⟩ := ck_iff.1 h
  have key : ∀ m : List En, (∀ e ∈ m, isEn e) → (lns m).length ≤ 32 * m.length := by
    intro m
    induction m with
    | nil => intro _; simp [lns]
    | cons e m ih =>
      intro hm
      have h1 := ih (fun x hx => hm x (List.mem_cons_of_mem _ hx))
      have h2 := text31 (hm e (List.mem_cons_self ..))
      have e1 : lns (e :: m) = (text e ++ [10]) ++ lns m := by unfold lns; simp
      rw [e1, List.length_append, List.length_append, List.length_cons]
      simp only [List.length_cons, List.length_nil]
      omega
  have h3 := key l (inR_mem hin)
  unfold fileT
  rw [List.length_append, List.length_append, List.length_append, hex_length]
  have h4 : sumw.length = 4 := rfl
  simp only [List.length_cons, List.length_nil]
  omega
theorem load_file {l : List En} (h : ck l = 0) : loadR (fileT l) = (l, 0) := by
  obtain ⟨h24, hin, _⟩ := ck_iff.1 h
  have hm := inR_mem hin
  have hps := sp_file hm
  have hlen : (l.map text ++ [sumw ++ hex (root l), []]).length = l.length + 2 := by simp
  have hat : ∀ i : Nat, i < l.length → nth (l.map text ++ [sumw ++ hex (root l), []]) (i : Int) = text (nth l (i : Int)) := fun i hi => by
    rw [nth_nat (by rw [hlen]; omega), nth_nat hi, List.getElem_append_left (by simpa using hi), List.getElem_map]
  have hsum : sumP (sp 10 (fileT l)) = sumw ++ hex (root l) := by
    rw [hps]; unfold sumP
    rw [hlen, show l.length + 2 - 2 = l.length by omega, nth_nat (by rw [hlen]; omega), List.getElem_append_right (by simp)]
    simp
  have hes : esOf (sp 10 (fileT l)) = l := by
    rw [hps]; unfold esOf ents
    rw [hlen, show l.length + 2 - 2 = l.length by omega]
    have e1 : (l.map text ++ [sumw ++ hex (root l), []]).take l.length = l.map text := by
      rw [List.take_append_of_le_length (by simp), List.take_of_length_le (by simp)]
    rw [e1, List.map_map]
    conv => rhs; rw [← List.map_id l]
    exact List.map_congr_left fun e he => by show (entR (text e)).1 = e; rw [entR_text (hm e he)]
  refine (look (by have := file_len h; omega) ?_ ?_ ?_ ?_ ?_).trans (by rw [hes])
  · rw [hps]
    refine ⟨by rw [hlen]; omega, ?_⟩
    rw [hlen, show l.length + 2 - 1 = l.length + 1 by omega, nth_nat (by rw [hlen]; omega), List.getElem_append_right (by simp)]
    simp
  · rw [hps]
    intro i hi
    rw [hlen] at hi
    rw [hat i (by omega), entR_text (hin i (by omega))]
  · rw [hsum]; exact hx_sum _
  · rw [hes]; exact h
  · rw [hsum, hes]
    have e1 : (sumw ++ hex (root l)).drop 4 = hex (root l) := by rw [List.drop_append_of_le_length (by decide)]; rfl
    rw [e1]
    exact (hexV_iff (hex_H _) (hex_length _)).2 rfl
theorem glue_two {c : UInt8} {s : List UInt8} : ∀ body : List (List UInt8), glue c (body ++ [s, []]) = body.flatMap (fun p => p ++ [c]) ++ (s ++ [c])
  | [] => rfl
  | p :: body => by
    have ih := glue_two (c := c) (s := s) body
    rw [List.cons_append, glue_cons (by simp), ih]
    simp
theorem file_load {s : List UInt8} (h : (loadR s).2 = 0) : fileT (loadR s).1 = s := by
  have h7 : ¬ 1000 < s.length := fun c => absurd ((congrArg Prod.snd (lo7 c)).symm.trans h) (by decide)
  have hs : shaped (sp 10 s) := Decidable.byContradiction fun c => absurd ((congrArg Prod.snd (lo8a h7 c)).symm.trans h) (by decide)
  have ha : allE (sp 10 s) := Decidable.byContradiction fun c => absurd ((congrArg Prod.snd (lo8b h7 hs c)).symm.trans h) (by decide)
  have hx : Hx (sumP (sp 10 s)) := Decidable.byContradiction fun c => absurd ((congrArg Prod.snd (lo8c h7 hs ha c)).symm.trans h) (by decide)
  have hc : ck (esOf (sp 10 s)) = 0 := Decidable.byContradiction fun c => c ((congrArg Prod.snd (lock h7 hs ha hx c)).symm.trans h)
  have hr : (hexV ((sumP (sp 10 s)).drop 4)) = (root (esOf (sp 10 s))).toNat := Decidable.byContradiction fun c => absurd ((congrArg Prod.snd (lo14 h7 hs ha hx hc c)).symm.trans h) (by decide)
  rw [look h7 hs ha hx hc hr]
  show fileT (esOf (sp 10 s)) = s
  have hg := glue_sp 10 s
  have h1 := (hexV_iff hx.2.2 (by rw [List.length_drop, hx.1])).1 hr
  have hsum : sumP (sp 10 s) = sumw ++ hex (root (esOf (sp 10 s))) := by
    rw [← h1, ← hx.2.1, List.take_append_drop]
  have hbody : sp 10 s = (sp 10 s).take ((sp 10 s).length - 2) ++ [sumP (sp 10 s), []] := by
    obtain ⟨hl2, hlast⟩ := hs
    generalize sp 10 s = ps at hl2 hlast
    have e1 : ps.drop (ps.length - 2) = [sumP ps, []] := by
      refine List.ext_getElem (by rw [List.length_drop]; simp; omega) fun i hi1 hi2 => ?_
      rw [List.getElem_drop]
      match i, hi2 with
      | 0, _ => unfold sumP; rw [nth_nat (by omega)]; rfl
      | 1, _ =>
        rw [nth_nat (by omega)] at hlast
        show _ = []
        rw [← hlast]
        congr 1; omega
    conv => lhs; rw [← List.take_append_drop (ps.length - 2) ps, e1]
  have htext : (esOf (sp 10 s)).flatMap (fun e => text e ++ [10]) = ((sp 10 s).take ((sp 10 s).length - 2)).flatMap (fun p => p ++ [10]) := by
    unfold esOf ents
    rw [List.flatMap_map]
    have key : ∀ (L : List (List UInt8)), (∀ p ∈ L, (entR p).2 = true) → (L.flatMap fun p => text (entR p).1 ++ [10]) = L.flatMap fun p => p ++ [10] := by
      intro L
      induction L with
      | nil => intro _; rfl
      | cons p L ih =>
        intro hp
        rw [List.flatMap_cons, List.flatMap_cons, ih (fun q hq => hp q (List.mem_cons_of_mem _ hq)), text_entR (hp p (List.mem_cons_self ..))]
    refine key _ fun p hp => ?_
    obtain ⟨i, hi, rfl⟩ := List.getElem_of_mem hp
    rw [List.length_take] at hi
    have := ha i (by omega)
    rw [nth_nat (by omega)] at this
    rwa [List.getElem_take]
  have hfin : fileT (esOf (sp 10 s)) = glue 10 (sp 10 s) := by
    conv => rhs; rw [hbody]
    rw [glue_two, ← htext, hsum]
    unfold fileT lns
    rfl
  rw [hfin, hg]
theorem load_ck {s : List UInt8} (h : (loadR s).2 = 0) : ck (loadR s).1 = 0 := by
  have h7 : ¬ 1000 < s.length := fun c => absurd ((congrArg Prod.snd (lo7 c)).symm.trans h) (by decide)
  have hs : shaped (sp 10 s) := Decidable.byContradiction fun c => absurd ((congrArg Prod.snd (lo8a h7 c)).symm.trans h) (by decide)
  have ha : allE (sp 10 s) := Decidable.byContradiction fun c => absurd ((congrArg Prod.snd (lo8b h7 hs c)).symm.trans h) (by decide)
  have hx : Hx (sumP (sp 10 s)) := Decidable.byContradiction fun c => absurd ((congrArg Prod.snd (lo8c h7 hs ha c)).symm.trans h) (by decide)
  have hc : ck (esOf (sp 10 s)) = 0 := Decidable.byContradiction fun c => c ((congrArg Prod.snd (lock h7 hs ha hx c)).symm.trans h)
  have hr : (hexV ((sumP (sp 10 s)).drop 4)) = (root (esOf (sp 10 s))).toNat := Decidable.byContradiction fun c => absurd ((congrArg Prod.snd (lo14 h7 hs ha hx hc c)).symm.trans h) (by decide)
  rw [look h7 hs ha hx hc hr]; exact hc
theorem load_err {s : List UInt8} (h : ¬ (loadR s).2 = 0) : (loadR s).1 = [] := by
  unfold loadR at h ⊢
  repeat' split
  all_goals first | rfl | (exfalso; simp_all; done)
end Go.Fip.B
namespace Go.Fip
open Go.Proofs Go.RowKit
theorem c14 {v : Value} {l : List En} {w : World} (h0 : Rd encE 5 v l w) (hG : Gl w) {s : List UInt8}  :
  Fn Tryz.prog 14 [(.agg #[v]), (str s)].toArray w (fun u _ => u = .bool true) := by
 refine fn_of' (args := [(.agg #[v]), (str s)]) Tryz.func14 rfl (ent Tryz.func14 (by kernel_rfl) rfl) rfl rfl (fun hH => ?_)
 refine seq (region ?_)
 refine op_box (us := [v]) rfl rfl rfl hH (fun b1 w2 hH3 => ?_)
 refine ops_y hH3 rfl rfl (yv_assign rfl) (ops_nil (thn_n (seq (seq (region ?_)))))
 refine ops_y hH3 rfl rfl (yv_loadA (cs := [v]) T.agg24 rfl rfl (fun _ hw => Heap.cellsw hw (n := 0) rfl (k := 0) rfl)) ?_
 refine op_fnV rfl rfl rfl hH3 (c43 (h0.now hH3 (n := 1) rfl)) (fun w4 hH5 => ?_)
 refine ops_y hH5 rfl rfl (yv_not rfl) ?_
 refine ops_y hH5 rfl rfl (yv_move rfl) ?_
 by_cases hc6 : B.ck l = 0
 ·skip
  refine guard_yes rfl rfl (not_decide_n hc6) ?_
  refine ops_y hH5 rfl rfl (yv_move rfl) ?_
  refine guard_yes rfl rfl (not_decide_n hc6) ?_
  refine ops_y hH5 rfl rfl (yv_lenS Tryz.underlying9 rfl) ?_
  refine guard_yes rfl rfl (not_decide_n hc6) ?_
  refine ops_y hH5 rfl rfl (yv_gtr rfl rfl) ?_
  refine ops_y hH5 rfl rfl (yv_pick_f rfl (not_decide_n hc6) rfl) ?_
  refine ops_nil (thn_n ?_)
  by_cases hc7 : 1100 < (s.length : Int)
  ·skip
   refine cond_t rfl (decide_eq_true hc7) ?_
   refine seq (region ?_)
   refine op_fnV rfl rfl rfl hH5 (c18 (hG.now hH5 (n := 1) rfl)) (fun w8 hH9 => ?_)
   refine ops_y hH9 rfl rfl (yv_assign rfl) (ops_nil (thn_n (ret (thn_r ?_))))
   have hH10 := (hH9.sub (List.Sublist.cons _ (List.Sublist.refl _)))
   refine fin hH10 (fun w' hf => (res1 rfl (show RV _ _ _ (.tmp 4) _ from rfl))) (fun w' hf => ?_)
   first | rfl | (exfalso; omega) | (exact absurd hck ‹_›) | exact absurd rfl ‹_›
  ·skip
   refine cond_f rfl (decide_eq_false hc7) ?_
   refine skip (thn_n (seq ?_))
   have hc0 : B.ck l = 0 := by first | assumption | exact Decidable.not_not.1 ‹_›
   have hbk := B.ck_iff.1 hc0
   have hin0 := hbk.2.1
   have hl24 := hbk.1
   have hro := B.ro2 hc0
   have hs11 : s.length ≤ 1100 := by omega
   have hfl := B.file_len hc0
   have hlf := B.load_file hc0
   refine region ?_
   refine ops_y hH5 rfl rfl (yv_loadA (cs := [v]) T.agg24 rfl rfl (fun _ hw => Heap.cellsw hw (n := 0) rfl (k := 0) rfl)) ?_
   refine op_fnV rfl rfl rfl hH5 ((by have h := c38  (h0.now hH5 (n := 1) rfl) (by omega) (hG.now hH5 (n := 1) rfl); simp only [B.fileR_ok hc0] at h; exact h)) (fun w11 hH12 => ?_)
   refine ops_y hH12 rfl rfl (yv_move rfl) (ops_y hH12 rfl rfl (yv_extract rfl rfl) (ops_y hH12 rfl rfl (yv_extract rfl rfl) (ops_y hH12 rfl rfl (yv_assign rfl) (ops_y hH12 rfl rfl (yv_assign rfl) (ops_nil (thn_n (seq (seq (region ?_)))))))))
   refine ops_y hH12 rfl rfl (yv_move rfl) ?_
   refine ops_y hH12 rfl rfl (yv_neq rfl rfl) ?_
   refine ops_y hH12 rfl rfl (yv_move rfl) (guard_yes rfl rfl rfl (ops_y hH12 rfl rfl (yv_move rfl) (guard_yes rfl rfl rfl ?_)))
   refine ops_y hH12 rfl rfl (yv_lenS Tryz.underlying9 rfl) ?_
   refine guard_yes rfl rfl rfl ?_
   refine ops_y hH12 rfl rfl (yv_gtr rfl rfl) ?_
   refine ops_y hH12 rfl rfl (yv_pick_f rfl rfl rfl) ?_
   refine ops_nil (thn_n ?_)
   have hc13 : ¬ (1000 < ((B.fileT l).length : Int)) := by omega
   refine cond_f rfl (decide_eq_false hc13) ?_
   refine skip (thn_n (seq (region (ops_y hH12 rfl rfl (yv_move rfl) ?_))))
   refine op_fn rfl rfl rfl hH12 ((by have h := c40 (l := (B.fileT l)) (hG.now hH12 (n := 1) rfl) (by omega); simp only [hlf] at h; exact h)) (fun u16 w14 lo17 hi18 hH15 hv19 => ?_)
   obtain ⟨bp20, hu, -⟩ := hv19
   subst hu
   have hH21 := Heap.weak (ψ := Rd encE 5 bp20 l) hH15 (n := 0) rfl (fun w' h => (by obtain ⟨p', e, h⟩ := h; rw [agg_slice e]; exact h))
   refine ops_y hH21 rfl rfl (yv_move rfl) (ops_y hH21 rfl rfl (yv_extract rfl rfl) (ops_y hH21 rfl rfl (yv_extract rfl rfl) ?_))
   refine op_alloc (z := (.agg #[(.slice none 0 0)])) (us := [(.slice none 0 0)]) (fun _ => by kernel_rfl) rfl rfl hH21 (fun b22 w23 hH24 => ?_)
   refine op_store (n := 0) (j := 0) (us := [bp20]) rfl rfl hH24 rfl T.sz24 rfl rfl rfl (all_one (SliceIs.one1 ((show Rd encE 5 bp20 l _ from hH24.get (n := 1) rfl)).is) rfl) (fun w25 hH26 => ?_)
   refine ops_y hH26 rfl rfl (yv_assign rfl) (ops_nil (thn_n (seq (seq (region (ops_y hH26 rfl rfl (yv_move rfl) ?_))))))
   refine ops_y hH26 rfl rfl (yv_neq rfl rfl) ?_
   refine ops_y hH26 rfl rfl (yv_move rfl) (guard_yes rfl rfl rfl ?_)
   refine ops_y hH26 rfl rfl (yv_loadA (cs := [bp20]) T.agg24 rfl rfl (fun _ hw => Heap.cellsw hw (n := 0) rfl (k := 0) rfl)) ?_
   refine guard_yes rfl rfl rfl ?_
   refine ops_y hH26 rfl rfl (yv_loadA (cs := [v]) T.agg24 rfl rfl (fun _ hw => Heap.cellsw hw (n := 2) rfl (k := 0) rfl)) ?_
   refine guard_yes rfl rfl rfl ?_
   refine op_fnV rfl rfl rfl hH26 (c42 ((show Rd encE 5 bp20 l _ from hH26.get (n := 1) rfl)) (h0.now hH26 (n := 3) rfl) (by omega) (by omega)) (fun w27 hH28 => ?_)
   refine guard_yes rfl rfl rfl ?_
   refine ops_y hH28 rfl rfl (yv_not rfl) ?_
   refine ops_y hH28 rfl rfl (yv_pick_f rfl rfl rfl) ?_
   refine ops_nil (thn_n ?_)
   refine cond_f rfl (bnot_f (decide_eq_true rfl)) ?_
   refine skip (thn_n (seq (region (ops_y hH28 rfl rfl (yv_move rfl) ?_))))
   refine op_fn rfl rfl rfl hH28 (c40 (l := s) (hG.now hH28 (n := 3) rfl) (by omega)) (fun u31 w29 lo32 hi33 hH30 hv34 => ?_)
   obtain ⟨bp35, hu, -⟩ := hv34
   subst hu
   have hH36 := Heap.weak (ψ := Rd encE 5 bp35 ((B.loadR s).1)) hH30 (n := 0) rfl (fun w' h => (by obtain ⟨p', e, h⟩ := h; rw [agg_slice e]; exact h))
   refine ops_y hH36 rfl rfl (yv_move rfl) (ops_y hH36 rfl rfl (yv_extract rfl rfl) (ops_y hH36 rfl rfl (yv_extract rfl rfl) ?_))
   refine op_alloc (z := (.agg #[(.slice none 0 0)])) (us := [(.slice none 0 0)]) (fun _ => by kernel_rfl) rfl rfl hH36 (fun b37 w38 hH39 => ?_)
   refine op_store (n := 0) (j := 0) (us := [bp35]) rfl rfl hH39 rfl T.sz24 rfl rfl rfl (all_one (SliceIs.one1 ((show Rd encE 5 bp35 ((B.loadR s).1) _ from hH39.get (n := 1) rfl)).is) rfl) (fun w40 hH41 => ?_)
   refine ops_y hH41 rfl rfl (yv_assign rfl) (ops_nil (thn_n (seq (seq (region (ops_y hH41 rfl rfl (yv_move rfl) ?_))))))
   refine ops_y hH41 rfl rfl (yv_neq rfl rfl) ?_
   refine ops_nil (thn_n ?_)
   by_cases hc42 : ((B.loadR s).2) = 0
   ·skip
    have hok : (B.loadR s).2 = 0 := by omega
    have hck := B.load_ck hok
    have hfs := B.file_load hok
    have hlb := B.loadR_bd (l := s)
    refine cond_f rfl (not_decide_n hc42) ?_
    refine skip (thn_n (seq (seq (region ?_))))
    refine ops_y hH41 rfl rfl (yv_loadA (cs := [bp35]) T.agg24 rfl rfl (fun _ hw => Heap.cellsw hw (n := 0) rfl (k := 0) rfl)) ?_
    refine op_fnV rfl rfl rfl hH41 (c43 ((show Rd encE 5 bp35 ((B.loadR s).1) _ from hH41.get (n := 1) rfl))) (fun w43 hH44 => ?_)
    refine ops_y hH44 rfl rfl (yv_not rfl) ?_
    refine ops_nil (thn_n ?_)
    by_cases hc45 : B.ck ((B.loadR s).1) = 0
    ·skip
     refine cond_f rfl (not_decide_n hc45) ?_
     refine skip (thn_n (seq (region ?_)))
     refine ops_y hH44 rfl rfl (yv_loadA (cs := [bp35]) T.agg24 rfl rfl (fun _ hw => Heap.cellsw hw (n := 0) rfl (k := 0) rfl)) ?_
     refine op_fnV rfl rfl rfl hH44 ((by have h := c38  ((show Rd encE 5 bp35 ((B.loadR s).1) _ from hH44.get (n := 1) rfl)) (by omega) (hG.now hH44 (n := 5) rfl); simp only [B.fileR_ok hck, hfs] at h; exact h)) (fun w46 hH47 => ?_)
     refine ops_y hH47 rfl rfl (yv_move rfl) (ops_y hH47 rfl rfl (yv_extract rfl rfl) (ops_y hH47 rfl rfl (yv_extract rfl rfl) (ops_y hH47 rfl rfl (yv_assign rfl) (ops_y hH47 rfl rfl (yv_assign rfl) (ops_nil (thn_n (seq (region (ops_y hH47 rfl rfl (yv_move rfl) ?_)))))))))
     refine ops_y hH47 rfl rfl (yv_eql rfl rfl) ?_
     refine ops_y hH47 rfl rfl (yv_move rfl) (guard_yes rfl rfl rfl (ops_y hH47 rfl rfl (yv_move rfl) (guard_yes rfl rfl rfl (ops_y hH47 rfl rfl (yv_move rfl) (guard_yes rfl rfl rfl ?_)))))
     refine ops_y hH47 rfl rfl (yv_eqlS rfl rfl) ?_
     refine ops_y hH47 rfl rfl (yv_pick_t rfl rfl rfl) ?_
     refine ops_y hH47 rfl rfl (yv_move rfl) ?_
     refine guard_yes rfl rfl (decide_eq_true rfl) ?_
     refine op_fnV rfl rfl rfl hH47 (c18 (hG.now hH47 (n := 5) rfl)) (fun w48 hH49 => ?_)
     refine ops_y hH49 rfl rfl (yv_pick_t rfl (decide_eq_true rfl) rfl) ?_
     refine ops_y hH49 rfl rfl (yv_assign rfl) (ops_nil (thn_n (ret ?_)))
     have hH50 := (hH49.sub (List.Sublist.cons _ (List.Sublist.cons _ (List.Sublist.cons _ (List.Sublist.cons _ (List.Sublist.cons _ (List.Sublist.refl _)))))))
     refine fin hH50 (fun w' hf => (res1 rfl (show RV _ _ _ (.tmp 4) _ from rfl))) (fun w' hf => ?_)
     first | rfl | (exfalso; omega) | (exact absurd hck ‹_›) | exact absurd rfl ‹_›
    ·skip
     refine cond_t rfl (not_decide_t hc45) ?_
     refine seq (region (ops_y hH44 rfl rfl (yv_assign rfl) (ops_nil (thn_n (ret (thn_r ?_))))))
     have hH51 := (hH44.sub (List.Sublist.cons _ (List.Sublist.cons _ (List.Sublist.cons _ (List.Sublist.cons _ (List.Sublist.cons _ (List.Sublist.refl _)))))))
     refine fin hH51 (fun w' hf => (res1 rfl (show RV _ _ _ (.tmp 4) _ from rfl))) (fun w' hf => ?_)
     first | rfl | (exfalso; omega) | (exact absurd hck ‹_›) | exact absurd rfl ‹_›
   ·skip
    have hle : (B.loadR s).1 = [] := B.load_err (by omega)
    have hl0 : ((B.loadR s).1.length : Int) = 0 := by rw [hle]; rfl
    refine cond_t rfl (not_decide_t hc42) ?_
    refine seq (region ?_)
    refine ops_y hH41 rfl rfl (yv_field T.f24_0 rfl) ?_
    refine ops_y hH41 rfl rfl (yv_load T.one22 rfl (fun _ hw => Heap.cellw hw (n := 0) rfl rfl)) ?_
    refine ops_y hH41 rfl rfl (yv_len T.sl22 rfl ((show Rd encE 5 bp35 ((B.loadR s).1) _ from hH41.get (n := 1) rfl)).is) ?_
    refine ops_y hH41 rfl rfl (yv_eql rfl rfl) ?_
    refine ops_y hH41 rfl rfl (yv_move rfl) ?_
    have hc52 : (((B.loadR s).1).length : Int) = 0 := hl0
    refine guard_yes rfl rfl (decide_eq_true hc52) ?_
    refine op_fnV rfl rfl rfl hH41 (c18 (hG.now hH41 (n := 5) rfl)) (fun w53 hH54 => ?_)
    refine ops_y hH54 rfl rfl (yv_pick_t rfl (decide_eq_true hc52) rfl) ?_
    refine ops_y hH54 rfl rfl (yv_assign rfl) (ops_nil (thn_n (ret (thn_r ?_))))
    have hH55 := (hH54.sub (List.Sublist.cons _ (List.Sublist.cons _ (List.Sublist.cons _ (List.Sublist.cons _ (List.Sublist.cons _ (List.Sublist.refl _)))))))
    refine fin hH55 (fun w' hf => (res1 rfl (show RV _ _ _ (.tmp 4) _ from rfl))) (fun w' hf => ?_)
    first | rfl | (exfalso; omega) | (exact absurd hck ‹_›) | exact absurd rfl ‹_›
 ·skip
  refine guard_no rfl rfl (not_decide_t hc6) rfl ?_
  refine guard_no rfl rfl (not_decide_t hc6) rfl ?_
  refine guard_no rfl rfl (not_decide_t hc6) rfl ?_
  refine ops_y hH5 rfl rfl (yv_pick_t rfl (not_decide_t hc6) rfl) ?_
  refine ops_nil (thn_n ?_)
  refine cond_t rfl rfl ?_
  refine seq (region ?_)
  refine op_fnV rfl rfl rfl hH5 (c18 (hG.now hH5 (n := 1) rfl)) (fun w56 hH57 => ?_)
  refine ops_y hH57 rfl rfl (yv_assign rfl) (ops_nil (thn_n (ret (thn_r ?_))))
  have hH58 := (hH57.sub (List.Sublist.cons _ (List.Sublist.refl _)))
  refine fin hH58 (fun w' hf => (res1 rfl (show RV _ _ _ (.tmp 4) _ from rfl))) (fun w' hf => ?_)
  first | rfl | (exfalso; omega) | (exact absurd hck ‹_›) | exact absurd rfl ‹_›
end Go.Fip
