/- A slice of arrays of two integers that came in. Generic. -/
import Derived.Test.YticpcefbokhgfaaMB
set_option linter.unusedVariables false
set_option linter.unusedSimpArgs false
set_option linter.unusedSectionVars false
namespace Go.Fip
open Go.ChangeShapes Go.WideShapes Go.ChangeAt Go.RowKit
section
variable {H : Type} {enc : TypeId × Value → H} {P : Program} {w : World}
theorem cell_arrs {t e e0 b : Nat} {k : IntKind} (ht : P.underlying t = some (.slice e)) (he : P.underlying e = some (.array 2 e0)) (ce : P.cellsOf e = 2) (c0 : P.cellsOf e0 = 1) (hk : P.underlying e0 = some (.int k)) {fuel : Nat} {v : Value} {x : DataW H × List MemPlace}
    (hok : Cell.okWide P w .any b t v) (h : DataW.trod enc P w 0 (fun _ => true) true fuel t [v] = some x) : ∃ xs : List (Int × Int), Rd (fun p => [.int k p.1, .int k p.2]) 2 v xs w := by
  rcases Go.Deep.open_slice ht h with ⟨e1, _⟩ | ⟨a, len, cap, m, n, D, Pl, e1, hb, h2, _, h4, _, h6⟩
  · cases e1
    exact ⟨[], ⟨⟨none, 0, rfl, Nat.le_refl _, .inl ⟨rfl, rfl⟩⟩, fun i x hx => by simp at hx⟩⟩
  · cases e1
    simp [Cell.okWide, Cell.ok, ht] at hok
    have hsp : a.spot = none := hok.2.2.2.1
    obtain ⟨ab, ao, as⟩ := a
    simp only at hsp
    subst hsp
    simp only [if_true] at h4
    have ea : ∀ o : Nat, (⟨ab, ao, none⟩ : Addr).add o = ⟨ab, ao + o, none⟩ := fun o => by
      unfold Addr.add
      split
      · subst_vars; rfl
      · rfl
    have each : ∀ i, i < len → ∃ p : Int × Int, w.cell? ⟨ab, ao + i * 2, none⟩ = some (.int k p.1) ∧ w.cell? ⟨ab, ao + i * 2 + 1, none⟩ = some (.int k p.2) := fun i hi => by
      obtain ⟨cs', g1, g2⟩ := h6 i (by omega)
      rw [ce, ea] at g1
      obtain ⟨_, hlen, hcell⟩ := World.cells?_some g1
      obtain ⟨xs, m', _, _, hcl, hxl, hf⟩ := DataW.trod_array he g2
      match cs', hlen, xs, hxl with
      | [v0, v1], _, [y0, y1], _ =>
        have f0 := hf 0 (by omega)
        have f1 := hf 1 (by omega)
        simp [c0] at f0 f1
        have e0 := hcell 0 (by omega)
        have e1 := hcell 1 (by omega)
        obtain ⟨n0, q0, _, _⟩ := DataW.trod_int hk f0
        obtain ⟨n1, q1, _, _⟩ := DataW.trod_int hk f1
        simp only [List.cons.injEq, and_true] at q0 q1
        refine ⟨(n0, n1), ?_, ?_⟩
        · rw [← q0]
          simpa [Addr.add] using e0
        · rw [← q1]
          have : (⟨ab, ao + i * 2, none⟩ : Addr).add 1 = ⟨ab, ao + i * 2 + 1, none⟩ := by
            unfold Addr.add; rfl
          rw [this] at e1
          simpa using e1
    obtain ⟨p, hp⟩ := Go.Deep.choose_lt each
    refine ⟨(List.range len).map p, ⟨⟨some ⟨ab, ao, none⟩, cap, by simp, by simpa using h2, .inr ⟨ab, ao, rfl⟩⟩, fun i x hx j u hj => ?_⟩⟩
    rw [List.getElem?_map] at hx
    by_cases hi : i < len
    · rw [List.getElem?_range hi] at hx
      simp at hx
      subst hx
      obtain ⟨h9, h10⟩ := hp i hi
      match j, hj with
      | 0, hj => simp at hj; subst hj; exact h9
      | 1, hj => simp at hj; subst hj; exact h10
      | j + 2, hj => simp at hj
    · rw [List.getElem?_eq_none (by simp; omega)] at hx
      simp at hx
theorem arg_arrs {t e e0 b : Nat} {k : IntKind} (ht : P.underlying t = some (.slice e)) (he : P.underlying e = some (.array 2 e0)) (ce : P.cellsOf e = 2) (c0 : P.cellsOf e0 = 1) (hk : P.underlying e0 = some (.int k)) {v : Value} {d : DataW H} {ps : List MemPlace}
    (hok : Value.okWide P w .any b t v) (h : DataW.Trod enc P w 0 (fun _ => true) true t v d ps) : ∃ xs : List (Int × Int), Rd (fun p => [.int k p.1, .int k p.2]) 2 v xs w := by
  obtain ⟨fuel, h⟩ := h
  obtain ⟨h1, h2⟩ := slice_cells ht hok
  rw [h2] at h
  exact cell_arrs ht he ce c0 hk h1 h
end
end Go.Fip
