/- Joined texts: Su. -/
import Derived.Test.YticpcefbokhgfaaMI
set_option linter.unusedVariables false
set_option linter.unusedSimpArgs false
set_option linter.unusedSectionVars false
namespace Go.Fip.S
open Go.Fip
section
variable {k : List Int} (hk : Rg k)
include hk
/-- The circle of an end is the path to it. -/
theorem best_circ {e : Int} (e0 : 0 ≤ e) (e1 : e < (k.length : Int)) (he : nth k e < 0) : ∀ q, ∃ t, t ≤ flen k (bst k e) ∧ it (best k) q e = it k t (bst k e) := by
  obtain ⟨s0, s1, hs, hse⟩ := bst_spec hk e0 e1 he
  obtain ⟨-, -, hch⟩ := flen_spec hk s0 s1 hs
  intro q
  induction q with
  | zero => exact ⟨_, Nat.le_refl _, hse.symm⟩
  | succ q ih =>
    obtain ⟨t, ht, e2⟩ := ih
    have hin := hch.at hk t ht
    show ∃ t, _ ∧ nth (best k) (it (best k) q e) = _
    rw [e2, nth_best hin.1 hin.2]
    rcases Nat.lt_or_ge t (flen k (bst k e)) with h | h
    · have := hch.2.2 t h
      exact ⟨t + 1, h, by rw [if_neg (by omega)]; rfl⟩
    · have h2 : t = flen k (bst k e) := by omega
      have hee : it k t (bst k e) = e := by rw [h2]; exact hse
      rw [hee, if_pos he]
      exact ⟨0, Nat.zero_le _, rfl⟩
/-- Two ends lie in two circles. -/
theorem ends_apart {e e' : Int} (e0 : 0 ≤ e) (e1 : e < (k.length : Int)) (he : nth k e < 0) (he' : nth k e' < 0) (hne : e ≠ e') : ¬ Rch (best k) e e' := by
  rintro ⟨q, hq⟩
  obtain ⟨s0, s1, hs, hse⟩ := bst_spec hk e0 e1 he
  obtain ⟨-, -, hch⟩ := flen_spec hk s0 s1 hs
  obtain ⟨t, ht, e2⟩ := best_circ hk e0 e1 he q
  rw [hq] at e2
  rcases Nat.lt_or_ge t (flen k (bst k e)) with h | h
  · have := hch.2.2 t h
    rw [← e2] at this
    omega
  · have h2 : t = flen k (bst k e) := by omega
    exact hne (by rw [e2, h2]; exact hse.symm)
variable {l : List Int} (hl : J l) (hf : Fits l k)
include hl hf
theorem best_in {y : Int} (y0 : 0 ≤ y) (y1 : y < (k.length : Int)) : Rch l y (nth (best k) y) := by
  have hlen := hf.1
  rw [nth_best y0 y1]
  split
  · rename_i he
    obtain ⟨s0, s1, hs, hse⟩ := bst_spec hk y0 y1 he
    obtain ⟨-, -, hch⟩ := flen_spec hk s0 s1 hs
    have hit : ∀ t, t ≤ flen k (bst k y) → it k t (bst k y) = it l t (bst k y) := fun t => by
      induction t with
      | zero => intro _; rfl
      | succ t ih =>
        intro ht
        have h1 := hch.at hk t (by omega)
        show nth k (it k t _) = nth l (it l t _)
        rw [← ih (by omega)]
        exact hf.nth h1.1 (by omega) (hch.2.2 t ht)
    exact hl.symm s0 (by omega) ⟨flen k (bst k y), by rw [← hit _ (Nat.le_refl _)]; exact hse⟩
  · rename_i he
    rw [hf.nth y0 (by omega) (by omega)]
    exact ⟨1, rfl⟩
theorem best_rch {x y : Int} (x0 : 0 ≤ x) (x1 : x < (k.length : Int)) (h : Rch (best k) x y) : Rch l x y := by
  obtain ⟨q, hq⟩ := h
  subst hq
  have hb := best_J hk
  induction q with
  | zero => exact Rch.refl x
  | succ q ih =>
    have h1 := hb.it x0 (by rw [best_length]; exact x1) q
    rw [best_length] at h1
    exact ih.trans (best_in hk hl hf h1.1 h1.2)
/-- No joints that fit have more circles than the best ones. -/
theorem fits_cyc : cyc l ≤ cyc (best k) := by
  have hb := best_J hk
  have hlen := hf.1
  refine sub_length (by unfold mins; exact List.nodup_range.filter _) fun i hi => ?_
  rw [mem_mins] at hi ⊢
  refine ⟨by rw [best_length]; omega, (hb.isMin (by omega) (by rw [best_length]; omega)).2 fun j hj => ?_⟩
  exact (hl.isMin (by omega) (by omega)).1 hi.2 j (best_rch hk hl hf (by omega) (by omega) hj)
end
/-- Joints that differ at few places are few exchanges apart. -/
theorem diff_cyc {a : List Int} (ha : J a) : ∀ (D : List Nat) (b : List Int), J b → b.length = a.length → (∀ y : Nat, y < a.length → y ∉ D → nth a (y : Int) = nth b (y : Int)) → cyc a ≤ cyc b + (D.length - 1)
  | [], b, hb, he, h => by
    have : a = b := ext_nth he.symm fun i hi => h i hi (by simp)
    subst this; omega
  | i :: D, b, hb, he, h => by
    by_cases hi : i < a.length ∧ nth a (i : Int) ≠ nth b (i : Int)
    · have hai := ha.nth (x := (i : Int)) (by omega) (by omega)
      obtain ⟨j, j0, j1, hj⟩ := hb.surj (y := nth a (i : Int)) hai.1 (by omega)
      have hji : j ≠ (i : Int) := fun e => hi.2 (by rw [← hj, e])
      have hjD : j.toNat ∈ D := by
        refine Classical.byContradiction fun hn => ?_
        have h1 := h j.toNat (by omega) (by
          intro h9
          rcases List.mem_cons.1 h9 with h8 | h8
          · omega
          · exact hn h8)
        rw [Int.toNat_of_nonneg j0, hj] at h1
        exact hji (ha.inj j0 (by omega) (by omega) (by omega) h1)
      have hD := List.length_pos_of_mem hjD
      have hs := J.swp hb (a := (i : Int)) (b := j) (by omega) (by omega) j0 j1
      have hsl : (swp b (i : Int) j).length = a.length := by rw [swp_length]; exact he
      have hcy := J.swp_cyc hb (a := (i : Int)) (b := j) (by omega) (by omega) j0 j1 (Ne.symm hji)
      have ih := diff_cyc ha D (swp b (i : Int) j) hs hsl fun y hy hyD => by
        rw [nth_swp (by omega) (by omega) j0 j1 (by omega) (by omega)]
        have hyj : (y : Int) ≠ j := fun e => hyD (by rw [show y = j.toNat by omega]; exact hjD)
        rw [if_neg hyj]
        by_cases hyi : (y : Int) = (i : Int)
        · rw [if_pos hyi, hj, hyi]
        · rw [if_neg hyi]
          exact h y hy (fun h9 => by
            rcases List.mem_cons.1 h9 with h8 | h8
            · omega
            · exact hyD h8)
      simp only [List.length_cons]
      omega
    · have ih := diff_cyc ha D b hb he fun y hy hyD => by
        by_cases hyi : y = i
        · subst hyi
          exact Classical.byContradiction fun hn => hi ⟨hy, hn⟩
        · exact h y hy (fun h9 => by
            rcases List.mem_cons.1 h9 with h8 | h8
            · omega
            · exact hyD h8)
      simp only [List.length_cons]
      omega
/-- Joints that differ at one place at most are the same. -/
theorem diff_one {a b : List Int} (ha : J a) (hb : J b) (he : b.length = a.length) {D : List Nat} (hD : D.length ≤ 1) (h : ∀ y : Nat, y < a.length → y ∉ D → nth a (y : Int) = nth b (y : Int)) : a = b := ext_nth he.symm fun y hy => by
  by_cases hyD : y ∈ D
  · have hai := ha.nth (x := (y : Int)) (by omega) (by omega)
    obtain ⟨j, j0, j1, hj⟩ := hb.surj (y := nth a (y : Int)) hai.1 (by omega)
    have e1 : j = (y : Int) := Classical.byContradiction fun hne => by
      have hjD : j.toNat ∉ D := fun h9 => by
        match D, hD, hyD, h9 with
        | [d], _, h1, h2 =>
          rw [List.mem_singleton] at h1 h2
          omega
      have h1 := h j.toNat (by omega) hjD
      rw [Int.toNat_of_nonneg j0, hj] at h1
      exact hne (ha.inj j0 (by omega) (by omega) (by omega) h1)
    rw [e1] at hj
    exact hj.symm
  · exact h y hy hyD
section
variable {k : List Int} (hk : Rg k) {l : List Int} (hl : J l) (hf : Fits l k)
include hk hl hf
theorem fits_diff (y : Nat) (hy : y < (best k).length) (hD : y ∉ ends k) : nth (best k) (y : Int) = nth l (y : Int) := by
  have hlen := hf.1
  rw [best_length] at hy
  have h0 : 0 ≤ nth k (y : Int) := Classical.byContradiction fun hn => hD (mem_ends.2 ⟨hy, by omega⟩)
  rw [nth_best (by omega) (by omega), if_neg (by omega), hf.nth (by omega) (by omega) h0]
theorem best_cyc : cyc (best k) ≤ cyc l + ((ends k).length - 1) := diff_cyc (best_J hk) (ends k) l hl (by rw [best_length]; exact hf.1) (fits_diff hk hl hf)
theorem best_only (h : (ends k).length ≤ 1) : best k = l := diff_one (best_J hk) hl (by rw [best_length]; exact hf.1) h (fits_diff hk hl hf)
/-- As many exchanges as the joints take that fit. -/
theorem fits_span : spanLo k ≤ (l.length : Int) - (cyc l : Int) ∧ (l.length : Int) - (cyc l : Int) ≤ spanHi k := by
  have h1 := fits_cyc hk hl hf
  have h2 := best_cyc hk hl hf
  have hlen := hf.1
  unfold spanHi spanLo
  omega
end
/-- Readings of a part of the places. -/
def Sub (l o : List Int) : Prop := o.length = l.length ∧ ∀ y, 0 ≤ y → y < (l.length : Int) → nth o y = nth l y ∨ nth o y = -1
theorem Sub.start {l : List Int} : Sub l l := ⟨rfl, fun _ _ _ => .inl rfl⟩
theorem Sub.off {l o : List Int} (h : Sub l o) {i : Nat} (hi : i < l.length) : Sub l (o.set ((i : Int)).toNat (-1)) := ⟨by rw [List.length_set]; exact h.1, fun y y0 y1 => by
  have hl := h.1
  rw [nth_set' (by omega) (by omega) y0 (by omega)]
  split
  · exact .inr rfl
  · exact h.2 y y0 y1⟩
theorem Sub.on {l o : List Int} (h : Sub l o) {i : Int} (i0 : 0 ≤ i) (i1 : i < (l.length : Int)) : Sub l (o.set i.toNat (nth l i)) := ⟨by rw [List.length_set]; exact h.1, fun y y0 y1 => by
  have hl := h.1
  rw [nth_set' i0 (by omega) y0 (by omega)]
  split
  · rename_i e; rw [e]; exact .inl rfl
  · exact h.2 y y0 y1⟩
theorem Sub.fits {l o : List Int} (h : Sub l o) : Fits l o := ⟨h.1.symm, fun i hi h0 => by
  rcases h.2 (i : Int) (by omega) (by omega) with e | e
  · exact e
  · omega⟩
theorem Sub.rg {l o : List Int} (hl : J l) (h : Sub l o) : Rg o := by
  have he := h.1
  have h1 := hl.1
  have h2 := hl.2.1
  refine ⟨by omega, by omega, fun i hi => ?_, fun i hi j hj ⟨e, h0⟩ => ?_⟩
  · have h3 := hl.nth (x := (i : Int)) (by omega) (by omega)
    rcases h.2 (i : Int) (by omega) (by omega) with e | e <;> omega
  · rcases h.2 (i : Int) (by omega) (by omega) with e1 | e1 <;> rcases h.2 (j : Int) (by omega) (by omega) with e2 | e2
    · have := hl.inj (x := (i : Int)) (by omega) (by omega) (y := (j : Int)) (by omega) (by omega) (by omega)
      omega
    all_goals omega
section
variable {l k : List Int} (hl : J l) (h : Sub l k) {i : Int} (i0 : 0 ≤ i) (i1 : i < (l.length : Int))
include hl h i0 i1
theorem more_same (hi : 0 ≤ nth k i) : k.set i.toNat (nth l i) = k := by
  have he := h.1
  refine ext_nth (List.length_set) fun y hy => ?_
  rw [List.length_set] at hy
  rw [nth_set' i0 (by omega) (by omega) (by omega)]
  split
  · rename_i e
    rw [e]
    rcases h.2 i i0 i1 with e1 | e1
    · exact e1.symm
    · omega
  · rfl
theorem more_at : nth (k.set i.toNat (nth l i)) i = nth l i := by
  have he := h.1
  rw [nth_set' i0 (by omega) i0 (by omega), if_pos rfl]
theorem more_off {y : Int} (y0 : 0 ≤ y) (y1 : y < (l.length : Int)) (hy : y ≠ i) : nth (k.set i.toNat (nth l i)) y = nth k y := by
  have he := h.1
  rw [nth_set' i0 (by omega) y0 (by omega), if_neg hy]
theorem more_ends (hi : nth k i < 0) : (ends (k.set i.toNat (nth l i))).length + 1 ≤ (ends k).length := by
  have he := h.1
  have hli := hl.nth i0 i1
  have hm := more_at hl h i0 i1
  have hsl : (k.set i.toNat (nth l i)).length = k.length := List.length_set
  refine sub_length (l := i.toNat :: ends (k.set i.toNat (nth l i))) (List.nodup_cons.2 ⟨fun hm2 => ?_, by unfold ends; exact List.nodup_range.filter _⟩) fun y hy => ?_
  · rw [mem_ends, Int.toNat_of_nonneg i0, hm] at hm2
    omega
  · rcases List.mem_cons.1 hy with h1 | h1
    · rw [mem_ends, h1, Int.toNat_of_nonneg i0]
      exact ⟨by omega, hi⟩
    · rw [mem_ends] at h1 ⊢
      rw [hsl] at h1
      refine ⟨h1.1, ?_⟩
      by_cases hyi : (y : Int) = i
      · rw [hyi, hm] at h1; omega
      · rw [more_off hl h i0 i1 (by omega) (by omega) hyi] at h1
        exact h1.2
theorem more_fits {z : List Int} (hz : Fits z (k.set i.toNat (nth l i))) (hi : nth k i < 0) : Fits z k := by
  have he := h.1
  have hsl : (k.set i.toNat (nth l i)).length = k.length := List.length_set
  have hzl := hz.1
  refine ⟨by omega, fun y hy h0 => ?_⟩
  have hyi : (y : Int) ≠ i := fun e => by rw [e] at h0; omega
  have h1 := more_off hl h i0 i1 (y := (y : Int)) (by omega) (by omega) hyi
  rw [← h1]
  exact hz.2 y hy (by omega)
/-- What one more reading may do. -/
theorem more_span : spanLo k ≤ spanLo (k.set i.toNat (nth l i)) ∧ spanHi (k.set i.toNat (nth l i)) ≤ spanHi k ∧ (ends (k.set i.toNat (nth l i))).length ≤ (ends k).length := by
  by_cases hi : 0 ≤ nth k i
  · rw [more_same hl h i0 i1 hi]
    exact ⟨Int.le_refl _, Int.le_refl _, Nat.le_refl _⟩
  · have hi : nth k i < 0 := by omega
    have he := h.1
    have hli := hl.nth i0 i1
    have hk := h.rg hl
    have hM := (h.on i0 i1).rg hl
    have hsl : (k.set i.toNat (nth l i)).length = k.length := List.length_set
    have hen := more_ends hl h i0 i1 hi
    have hb := best_J hk
    have hbm := best_J hM
    have hbf := more_fits hl h i0 i1 (best_fits (k := k.set i.toNat (nth l i))) hi
    have c1 := fits_cyc hk hbm hbf
    have c2 := best_cyc hk hbm hbf
    have hbl := best_length (k := k)
    have c3 : cyc (best k) ≤ cyc (best (k.set i.toNat (nth l i))) + 1 := by
      obtain ⟨e, e0, e1, hee⟩ := hb.surj (y := nth l i) hli.1 (by omega)
      have hfit : ∀ z : List Int, z.length = k.length → nth z i = nth l i → (∀ y, 0 ≤ y → y < (k.length : Int) → y ≠ i → 0 ≤ nth k y → nth z y = nth k y) → Fits z (k.set i.toNat (nth l i)) := fun z hz h1 h2 => ⟨by omega, fun y hy h0 => by
        by_cases hyi : (y : Int) = i
        · rw [hyi, more_at hl h i0 i1, h1]
        · rw [more_off hl h i0 i1 (by omega) (by omega) hyi] at h0 ⊢
          exact (h2 _ (by omega) (by omega) hyi h0).symm⟩
      by_cases hei : e = i
      · rw [hei] at hee
        have := fits_cyc hM hb (hfit (best k) hbl hee (fun y y0 y1 _ h0 => by rw [nth_best y0 y1, if_neg (by omega)]))
        omega
      · have hz := J.swp hb (a := i) (b := e) i0 (by omega) e0 e1
        have hzc := J.swp_cyc hb (a := i) (b := e) i0 (by omega) e0 e1 (Ne.symm hei)
        have := fits_cyc hM hz (hfit (swp (best k) i e) (by rw [swp_length]; exact hbl) (by rw [nth_swp i0 (by omega) e0 e1 i0 (by omega), if_neg (Ne.symm hei), if_pos rfl, hee]) (fun y y0 y1 hyi h0 => by
          rw [nth_swp i0 (by omega) e0 e1 y0 (by omega)]
          have hye : y ≠ e := fun e9 => by
            rw [← e9, nth_best y0 y1, if_neg (by omega), h.fits.nth y0 (by omega) h0] at hee
            exact hei (e9 ▸ hl.inj y0 (by omega) i0 i1 hee)
          rw [if_neg hye, if_neg hyi, nth_best y0 y1, if_neg (by omega)]))
        omega
    unfold spanHi spanLo
    omega
end
/-- How far the walk over the ends has come. -/
def RchI (k : List Int) (q : Nat) (o : List Int) (last n : Int) : Prop := J o ∧ Fits o k ∧ ((last = -1 ∧ endsTo k q = 0) ∨ (0 ≤ last ∧ last < (q : Int) ∧ nth k last < 0 ∧ 1 ≤ endsTo k q)) ∧ cyc o + (endsTo k q - 1) = cyc (best k) ∧ n = spanLo k + ((endsTo k q - 1 : Nat) : Int) ∧ ∀ j : Nat, q ≤ j → j < k.length → nth k (j : Int) < 0 → ∀ y, Rch o (j : Int) y ↔ Rch (best k) (j : Int) y
section
variable {k : List Int} (hk : Rg k)
include hk
theorem RchI.start : RchI k 0 (best k) (-1) (spanLo k) := ⟨best_J hk, best_fits, .inl ⟨rfl, rfl⟩, rfl, by simp [endsTo], fun _ _ _ _ _ => Iff.rfl⟩
variable {q : Nat} {o : List Int} {last n : Int} (h : RchI k q o last n) (hq : q < k.length)
include h
theorem RchI.exs : ((exs o).length : Int) = n ∧ (exs o).length ≤ 10 := by
  obtain ⟨h1, h2, h3, h4, h5, h6⟩ := h
  have := (exs_all h1).2.2
  have hl := h2.1
  have := h1.cyc_le
  have := h1.2.1
  unfold spanLo at h5
  omega
include hq
theorem RchI.skip (hn : 0 ≤ nth k (q : Int)) : RchI k (q + 1) o last n := by
  obtain ⟨h1, h2, h3, h4, h5, h6⟩ := h
  have he := endsTo_f hn
  exact ⟨h1, h2, by omega, by rw [he]; exact h4, by rw [he]; exact h5, fun j hj => h6 j (by omega)⟩
theorem RchI.first (hn : nth k (q : Int) < 0) (hla : ¬ 0 ≤ last) : RchI k (q + 1) o (q : Int) n := by
  obtain ⟨h1, h2, h3, h4, h5, h6⟩ := h
  have he := endsTo_t hn
  exact ⟨h1, h2, by omega, by rw [← h4]; omega, by rw [h5]; omega, fun j hj => h6 j (by omega)⟩
theorem RchI.apart (hn : nth k (q : Int) < 0) (hla : 0 ≤ last) {j : Nat} (hj : q ≤ j) (hj2 : j < k.length) (hn2 : nth k (j : Int) < 0) : ¬ Rch o last (j : Int) := fun hr => by
  obtain ⟨h1, h2, h3, h4, h5, h6⟩ := h
  have hl := h2.1
  have h7 := h1.symm (a := last) (b := (j : Int)) (by omega) (by omega) hr
  exact ends_apart hk (by omega) (by omega) hn2 (e' := last) (by omega) (by omega) ((h6 j hj hj2 hn2 _).1 h7)
theorem RchI.step (hn : nth k (q : Int) < 0) (hla : 0 ≤ last) : RchI k (q + 1) (swp o last (q : Int)) (q : Int) (n + 1) := by
  have hap := fun j => RchI.apart hk h hq hn hla (j := j)
  obtain ⟨h1, h2, h3, h4, h5, h6⟩ := h
  have hl := h2.1
  have he := endsTo_t hn
  have hlq : last < (q : Int) := by omega
  have hc := J.merge h1 (a := last) (b := (q : Int)) hla (by omega) (by omega) (by omega) (hap q (Nat.le_refl _) hq hn)
  have hJ := J.swp h1 (a := last) (b := (q : Int)) hla (by omega) (by omega) (by omega)
  refine ⟨hJ, ⟨by rw [swp_length]; exact hl, fun i hi h0 => ?_⟩, by omega, by omega, by omega, fun j hj hj2 hn2 y => ?_⟩
  · rw [swp_length] at hi
    rw [nth_swp hla (by omega) (by omega) (by omega) (by omega) (by omega), if_neg (fun e => by rw [e] at h0; omega), if_neg (fun e => by rw [e] at h0; omega)]
    exact h2.2 i hi h0
  · rw [J.swp_out h1 hla (by omega) (by omega) (by omega) (x := (j : Int)) (by omega) (by omega) (fun h9 => ?_)]
    · exact h6 j (by omega) hj2 hn2 y
    · rcases h9 with h8 | h8
      · exact hap j (by omega) hj2 hn2 h8
      · have h7 := h1.symm (a := (q : Int)) (b := (j : Int)) (by omega) (by omega) h8
        exact ends_apart hk (by omega) (by omega) hn2 (e' := (q : Int)) hn (by omega) ((h6 j (by omega) hj2 hn2 _).1 h7)
end
theorem RchI.done {k : List Int} {o : List Int} {last n : Int} (h : RchI k k.length o last n) : n = spanHi k := by
  have h5 := h.2.2.2.2.1
  have : endsTo k k.length = (ends k).length := rfl
  unfold spanHi
  omega
end Go.Fip.S
