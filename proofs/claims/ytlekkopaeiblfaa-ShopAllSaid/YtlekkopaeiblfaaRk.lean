/- What a call's arguments read as, and what the row asks behind the call: generic. -/
import Derived.Test.YtlekkopaeiblfaaFip
import Derived.WalkKit
import Derived.ProofKit
import Derived.OpenShut
import Derived.Carry
import Derived.Deep.SlicePairs
set_option linter.unusedVariables false
set_option linter.unusedSimpArgs false
set_option linter.unusedSectionVars false
set_option linter.unnecessarySimpa false
namespace Go.Fip
open Go.ChangeShapes Go.WideShapes Go.ChangeAt Go.RowKit
section
variable {H : Type} {enc : TypeId × Value → H} {P : Program} {w : World}
/-- A slice of integers that came in. -/
theorem cell_ints {t e b : Nat} {k : IntKind} (ht : P.underlying t = some (.slice e)) (he : P.underlying e = some (.int k)) (hc : P.cellsOf e = 1) {fuel : Nat} {v : Value} {x : DataW H × List MemPlace}
    (hok : Cell.okWide P w .any b t v) (h : DataW.trod enc P w 0 (fun _ => true) true fuel t [v] = some x) : ∃ xs : List Int, Rd (fun n => [.int k n]) 1 v xs w ∧ ∀ n ∈ xs, (Lit.int k n).wf = true := by
  rcases open_ints ht he hc h with ⟨e1, _⟩ | ⟨a, len, cap, zs, e1, _, h2, _, h4, _, h6, h7⟩
  · cases e1
    exact ⟨[], ⟨⟨none, 0, rfl, Nat.le_refl _, .inl ⟨rfl, rfl⟩⟩, fun i x hx => by simp at hx⟩, fun n hn => by cases hn⟩
  · cases e1
    simp [Cell.okWide, Cell.ok, ht] at hok
    have hsp : a.spot = none := hok.2.2.2.1
    obtain ⟨ab, ao, as⟩ := a
    simp only at hsp
    subst hsp
    simp only [if_true] at h4
    refine ⟨zs.take len, ⟨⟨some ⟨ab, ao, none⟩, cap, by rw [List.length_take]; congr 1; omega, by rw [List.length_take]; omega, .inr ⟨ab, ao, rfl⟩⟩, fun i x hx j u hj => ?_⟩, fun n hn => h7 n (List.mem_of_mem_take hn)⟩
    obtain ⟨hlt, hx⟩ := List.getElem?_eq_some_iff.1 hx
    rw [List.length_take] at hlt
    rw [List.getElem_take] at hx
    match j, hj with
    | 0, hj =>
      simp at hj
      subst hj
      have h8 := h6 i (by omega)
      rw [List.getD_eq_getElem?_getD, List.getElem?_eq_getElem (by omega), Option.getD_some, hx] at h8
      simp only [eb, eo, Nat.mul_one, Nat.add_zero]
      rw [← h8]
      unfold Addr.add
      split
      · subst_vars; simp
      · rfl
    | j + 1, hj => simp at hj
/-- A slice of structs of two integers that came in. -/
theorem cell_pairs {t e t0 t1 b : Nat} {k : IntKind} {f0 f1 : Field} (ht : P.underlying t = some (.slice e)) (he : P.underlying e = some (.struct #[f0, f1])) (ce : P.cellsOf e = 2) (o0 : f0.offset = 0) (o1 : f1.offset = 1) (c0 : P.cellsOf f0.type = 1) (c1 : P.cellsOf f1.type = 1)
    (hk0 : P.underlying f0.type = some (.int k)) (hk1 : P.underlying f1.type = some (.int k)) {fuel : Nat} {v : Value} {x : DataW H × List MemPlace}
    (hok : Cell.okWide P w .any b t v) (h : DataW.trod enc P w 0 (fun _ => true) true fuel t [v] = some x) : ∃ xs : List (Int × Int), Rd (fun p => [.int k p.1, .int k p.2]) 2 v xs w ∧ ∀ p ∈ xs, (Lit.int k p.1).wf = true ∧ (Lit.int k p.2).wf = true := by
  rcases Go.Deep.open_slice_pairs ht he ce o0 o1 c0 c1 h with ⟨e1, _⟩ | ⟨a, len, cap, m, n, V0, V1, D0, D1, P0, P1, e1, _, h2, _, h4, _, h6⟩
  · cases e1
    exact ⟨[], ⟨⟨none, 0, rfl, Nat.le_refl _, .inl ⟨rfl, rfl⟩⟩, fun i x hx => by simp at hx⟩, fun n hn => by cases hn⟩
  · cases e1
    simp [Cell.okWide, Cell.ok, ht] at hok
    have hsp : a.spot = none := hok.2.2.2.1
    obtain ⟨ab, ao, as⟩ := a
    simp only at hsp
    subst hsp
    simp only [if_true] at h4
    have each : ∀ i, i < len → ∃ p : Int × Int, V0 i = .int k p.1 ∧ V1 i = .int k p.2 ∧ (Lit.int k p.1).wf = true ∧ (Lit.int k p.2).wf = true := fun i hi => by
      obtain ⟨_, _, h9, h10⟩ := h6 i (by omega)
      obtain ⟨n0, e0, _, w0⟩ := DataW.trod_int hk0 h9
      obtain ⟨n1, e1, _, w1⟩ := DataW.trod_int hk1 h10
      simp only [List.cons.injEq, and_true] at e0 e1
      exact ⟨(n0, n1), e0, e1, w0, w1⟩
    obtain ⟨p, hp⟩ := Go.Deep.choose_lt each
    refine ⟨(List.range len).map p, ⟨⟨some ⟨ab, ao, none⟩, cap, by simp, by simpa using h2, .inr ⟨ab, ao, rfl⟩⟩, fun i x hx j u hj => ?_⟩, fun q hq => ?_⟩
    · rw [List.getElem?_map] at hx
      by_cases hi : i < len
      · rw [List.getElem?_range hi] at hx
        simp at hx
        subst hx
        obtain ⟨h9, h10, _, _⟩ := h6 i (by omega)
        obtain ⟨q0, q1, _, _⟩ := hp i hi
        have ea : ∀ o : Nat, (⟨ab, ao, none⟩ : Addr).add o = ⟨ab, ao + o, none⟩ := fun o => by
          unfold Addr.add
          split
          · subst_vars; rfl
          · rfl
        rw [ea] at h9 h10
        match j, hj with
        | 0, hj => simp at hj; subst hj; rw [← q0]; exact h9
        | 1, hj => simp at hj; subst hj; rw [← q1]; simp only [eb, eo]; rw [Nat.add_assoc]; exact h10
        | j + 2, hj => simp at hj
      · rw [List.getElem?_eq_none (by simp; omega)] at hx
        simp at hx
    · rw [List.mem_map] at hq
      obtain ⟨i, hi, rfl⟩ := hq
      have := hp i (List.mem_range.1 hi)
      exact ⟨this.2.2.1, this.2.2.2⟩
theorem slice_cells {t e b : Nat} (ht : P.underlying t = some (.slice e)) {v : Value} (hok : Value.okWide P w .any b t v) : Cell.okWide P w .any b t v ∧ v.cells.toList = [v] := by
  simp only [Value.okWide, ht] at hok
  refine ⟨hok, ?_⟩
  cases v <;> simp [Cell.okWide, Cell.ok, ht] at hok
  rfl
theorem arg_ints {t e b : Nat} {k : IntKind} (ht : P.underlying t = some (.slice e)) (he : P.underlying e = some (.int k)) (hc : P.cellsOf e = 1) {v : Value} {d : DataW H} {ps : List MemPlace}
    (hok : Value.okWide P w .any b t v) (h : DataW.Trod enc P w 0 (fun _ => true) true t v d ps) : ∃ xs : List Int, Rd (fun n => [.int k n]) 1 v xs w ∧ ∀ n ∈ xs, (Lit.int k n).wf = true := by
  obtain ⟨fuel, h⟩ := h
  obtain ⟨h1, h2⟩ := slice_cells ht hok
  rw [h2] at h
  exact cell_ints ht he hc h1 h
theorem arg_pairs {t e b : Nat} {k : IntKind} {f0 f1 : Field} (ht : P.underlying t = some (.slice e)) (he : P.underlying e = some (.struct #[f0, f1])) (ce : P.cellsOf e = 2) (o0 : f0.offset = 0) (o1 : f1.offset = 1) (c0 : P.cellsOf f0.type = 1) (c1 : P.cellsOf f1.type = 1)
    (hk0 : P.underlying f0.type = some (.int k)) (hk1 : P.underlying f1.type = some (.int k)) {v : Value} {d : DataW H} {ps : List MemPlace}
    (hok : Value.okWide P w .any b t v) (h : DataW.Trod enc P w 0 (fun _ => true) true t v d ps) : ∃ xs : List (Int × Int), Rd (fun p => [.int k p.1, .int k p.2]) 2 v xs w ∧ ∀ p ∈ xs, (Lit.int k p.1).wf = true ∧ (Lit.int k p.2).wf = true := by
  obtain ⟨fuel, h⟩ := h
  obtain ⟨h1, h2⟩ := slice_cells ht hok
  rw [h2] at h
  exact cell_pairs (t0 := 0) (t1 := 0) ht he ce o0 o1 c0 c1 hk0 hk1 h1 h
/-- A struct of three slices of integers that came in. -/
theorem arg_three {t b : Nat} {k : IntKind} {f0 f1 f2 : Field} {e0 : Nat} (ht : P.underlying t = some (.struct #[f0, f1, f2])) (o0 : f0.offset = 0) (o1 : f1.offset = 1) (o2 : f2.offset = 2) (s0 : P.underlying f0.type = some (.slice e0)) (s1 : P.underlying f1.type = some (.slice e0)) (s2 : P.underlying f2.type = some (.slice e0))
    (he : P.underlying e0 = some (.int k)) (hc : P.cellsOf e0 = 1) (c0 : P.cellsOf f0.type = 1) (c1 : P.cellsOf f1.type = 1) (c2 : P.cellsOf f2.type = 1) (hct : P.cellTypes P.depth t = some [f0.type, f1.type, f2.type]) (hcs : P.cellsOf t = 3) {v : Value} {d : DataW H} {ps : List MemPlace}
    (hok : Value.okWide P w .any b t v) (h : DataW.Trod enc P w 0 (fun _ => true) true t v d ps) : ∃ (x y z : Value) (X Y Z : List Int), v = .agg #[x, y, z] ∧ Rd (fun n => [.int k n]) 1 x X w ∧ Rd (fun n => [.int k n]) 1 y Y w ∧ Rd (fun n => [.int k n]) 1 z Z w ∧
      (∀ n ∈ X, (Lit.int k n).wf = true) ∧ (∀ n ∈ Y, (Lit.int k n).wf = true) ∧ ∀ n ∈ Z, (Lit.int k n).wf = true := by
  obtain ⟨fuel, h⟩ := h
  simp only [Value.okWide, ht] at hok
  obtain ⟨cs, rfl, hsz, ts, hts, _, hrow⟩ := hok
  rw [hct] at hts
  cases hts
  rw [hcs] at hsz
  obtain ⟨x, y, z, rfl⟩ : ∃ x y z, cs = #[x, y, z] := by
    obtain ⟨l⟩ := cs
    match l, hsz with
    | [x, y, z], _ => exact ⟨x, y, z, rfl⟩
  have hcells : (Value.agg #[x, y, z]).cells.toList = [x, y, z] := rfl
  rw [hcells] at h
  obtain ⟨xs, n, _, _, _, _, hf⟩ := DataW.trod_struct ht h
  have g0 := hf 0 f0 rfl
  have g1 := hf 1 f1 rfl
  have g2 := hf 2 f2 rfl
  have hl : xs.length = 3 := by assumption
  match xs, hl with
  | [a0, a1, a2], _ =>
    simp [o0, o1, o2, c0, c1, c2] at g0 g1 g2
    obtain ⟨u0, hu0, k0⟩ := hrow 0 x rfl
    obtain ⟨u1, hu1, k1⟩ := hrow 1 y rfl
    obtain ⟨u2, hu2, k2⟩ := hrow 2 z rfl
    simp at hu0 hu1 hu2
    subst hu0 hu1 hu2
    obtain ⟨X, hX, wX⟩ := cell_ints s0 he hc k0 g0
    obtain ⟨Y, hY, wY⟩ := cell_ints s1 he hc k1 g1
    obtain ⟨Z, hZ, wZ⟩ := cell_ints s2 he hc k2 g2
    exact ⟨x, y, z, X, Y, Z, rfl, hX, hY, hZ, wX, wY, wZ⟩
/-- Of what was there nothing has turned: the arguments read as they did. -/
theorem trodAll_below (hl : laidOutB P = true) {W W' : World} (hb : Below W.heap.size W W') : ∀ (ts : List TypeId) (vs : List Value) (ds : List (DataW H)) (ps : List MemPlace), (ts.all fun t => P.readableRec t && decide (t < P.types.size)) = true →
    DataW.TrodAll enc P W 0 (fun _ => true) true ts vs ds ps → (∀ x ∈ ps, x.block < W.heap.size) → DataW.TrodAll enc P W' 0 (fun b => decide (b < W.heap.size)) true ts vs ds ps
  | [], vs, ds, ps, _, h, _ => by
    obtain ⟨rfl, rfl, rfl⟩ := trodAll_nil h
    rfl
  | t :: ts, vs, ds, ps, hr, h, hlt => by
    obtain ⟨v, vs, d, ds, p, q, rfl, rfl, rfl, h1, h2⟩ := trodAll_cons h
    simp only [List.all_cons, Bool.and_eq_true, decide_eq_true_eq] at hr
    exact ⟨p, q, Below.trod hl hr.1.1 hr.1.2 h1 hb (fun x hx => hlt x (List.mem_append_left _ hx)), trodAll_below hl hb ts vs ds q (by simpa using hr.2) h2 (fun x hx => hlt x (List.mem_append_right _ hx)), rfl⟩
/-- Behind a law that returned true and turned nothing of what was there. -/
theorem law_post {f : Func} {s : ChangeSpec} {apart fresh : Bool} {W W' : World} {args : Array Value} {ds : List (DataW H)} {before p : List MemPlace} {tb : TypeId} (hl : laidOutB P = true) (hb : Below W.heap.size W W')
    (hr : (f.params.toList.all fun t => P.readableRec t && decide (t < P.types.size)) = true) (hv : s.vars = []) (hW : DataW.Whole enc P f.params.toList s.vars apart W args.toList ds [] before)
    (hA : DataW.TrodAll enc P W 0 (fun _ => true) true f.params.toList args.toList ds p) (hp : before = p) (hrt : f.resultTypes = #[tb]) (htb : P.underlying tb = some .bool) (hs : s.fn H (ds ++ []) = { results := [.lit (.bool true)], args := ds }) :
    s.post enc P f apart fresh false false W args (.bool true) W' := by
  subst hp
  refine ⟨ds, [], before, [], before, [], hW, ?_, ?_, ?_, Below.frame hb _, fun h => by cases h⟩
  · rw [hs, hrt]; exact trodAll_mk1 (shut_bool htb _)
  · rw [hs]; exact trodAll_below hl hb _ _ _ _ hr hA (fun x hx => by simpa using hW.lt x hx)
  · rw [hs, hv]; rfl
end
end Go.Fip
