/- The argument of bounds, as it is read. -/
import Derived.Test.YtkhokmfjnjfojaaXA
import Derived.Test.YtkhokmfjnjfojaaMJ
import Derived.Deep.Matrix
set_option linter.unusedVariables false
set_option linter.unusedSimpArgs false
set_option linter.unusedSectionVars false
set_option linter.unnecessarySimpa false
namespace Go.Proofs.Ytkhokmfjnjfojaa
open Go.ChangeShapes Go.WideShapes Go.ChangeAt Go.RowKit Go.Fip
theorem cell_spot {w : World} {a : Addr} {u : Value} (h : w.cell? a = some u) : a.spot = none := by
  unfold World.cell? at h
  split at h
  · split at h
    · cases h
    · rename_i hs
      simpa using hs
  · cases h
section
variable {H : Type} {enc : TypeId × Value → H} {W : World} {b : Nat} {v : Value} {d : DataW H} {ps : List MemPlace}
set_option maxRecDepth 100000 in
theorem argR (hok : Value.okWide Try.prog W .any b 45 v) (h : DataW.Trod enc Try.prog W 0 (fun _ => true) true 45 v d ps) : ∃ VV RR, RowsU v VV RR W := by
  obtain ⟨fuel, h⟩ := h
  obtain ⟨h1, h2⟩ := slice_cells Try.underlying45 hok
  rw [h2] at h
  rcases Go.Deep.open_int_rows Try.underlying45 Try.underlying30 Try.underlying2 (by kernel_rfl) (by kernel_rfl) h with ⟨e1, _⟩ | ⟨a, len, cap, A, L, C, Z, e1, _, hl, _, _, hr⟩
  · cases e1
    exact ⟨[], [], ⟨⟨none, 0, rfl, Nat.le_refl _, .inl ⟨rfl, rfl⟩⟩, fun i x hx => by simp at hx⟩, rfl, fun i hi => absurd hi (Nat.not_lt_zero _)⟩
  · cases e1
    simp [Cell.okWide, Cell.ok, Try.underlying45] at h1
    have hsp : a.spot = none := h1.2.2.2.1
    obtain ⟨ab, ao, asp⟩ := a
    simp only at hsp
    subst hsp
    have ea : ∀ (x y o : Nat), (⟨x, y, none⟩ : Addr).add o = ⟨x, y + o, none⟩ := fun x y o => by
      unfold Addr.add
      split
      · subst_vars; rfl
      · rfl
    refine ⟨(List.range len).map fun r => (⟨.slice (A r) (L r) (C r), _, _, _, rfl⟩ : SV), (List.range len).map fun r => (Z r).take (L r), ⟨⟨some ⟨ab, ao, none⟩, cap, by simp, by simpa using hl, .inr ⟨ab, ao, rfl⟩⟩, fun i x hx j u hj => ?_⟩, by simp, fun i hi => ?_⟩
    · rw [List.getElem?_map] at hx
      by_cases hi : i < len
      · rw [List.getElem?_range hi] at hx
        simp at hx
        subst hx
        match j, hj with
        | 0, hj =>
          simp [encV] at hj
          subst hj
          have := (hr i (by omega)).1
          rw [ea] at this
          simp only [eb, eo, Nat.mul_one, Nat.add_zero]
          exact this
        | j + 1, hj => simp [encV] at hj
      · rw [List.getElem?_eq_none (by simp; omega)] at hx
        simp at hx
    · rw [List.length_map, List.length_range] at hi
      obtain ⟨e1, r1, r2, r3, r4, r5, r6⟩ := hr i (by omega)
      rw [nth_nat (by simpa using hi), nth_nat (by simpa using hi)]
      simp only [List.getElem_map, List.getElem_range]
      have hlen : ((Z i).take (L i)).length = L i := by rw [List.length_take, r3]; omega
      refine ⟨⟨A i, C i, by rw [hlen]⟩, fun hne => ?_⟩
      have hL : 0 < L i := by rw [← hlen]; exact List.length_pos_iff.2 hne
      cases hA : A i with
      | none => have := r5 hA; omega
      | some a' =>
        obtain ⟨_, hc⟩ := r6 a' hA
        have hs0 := cell_spot (hc 0 (by omega))
        obtain ⟨xb, xo, xs⟩ := a'
        have hxs : xs = none := by
          unfold Addr.add at hs0
          simpa using hs0
        subst hxs
        refine ⟨⟨some ⟨xb, xo, none⟩, C i, by rw [hlen], by rw [hlen]; exact r1, .inr ⟨xb, xo, rfl⟩⟩, fun c x hx j u hj => ?_⟩
        have hcl : c < L i := by
          have := (List.getElem?_eq_some_iff.1 hx).1
          rwa [hlen] at this
        match j, hj with
        | 0, hj =>
          simp [Go.Fip.encI] at hj
          subst hj
          have := hc c (by omega)
          rw [ea] at this
          simp only [eb, eo, Nat.mul_one, Nat.add_zero]
          rw [this]
          rw [List.getElem?_take, if_pos hcl] at hx
          rw [List.getD_eq_getElem?_getD, hx]; rfl
        | j + 1, hj => simp [Go.Fip.encI] at hj
end
end Go.Proofs.Ytkhokmfjnjfojaa
