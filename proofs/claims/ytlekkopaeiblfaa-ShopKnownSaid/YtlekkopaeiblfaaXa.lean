/- The arguments of this seat's laws, as they are read; the laws' rows. -/
import Derived.Test.YtlekkopaeiblfaaRows
import Derived.Test.YtlekkopaeiblfaaRk
import Derived.Test.YtlekkopaeiblfaaWr
set_option linter.unusedVariables false
set_option linter.unusedSimpArgs false
set_option linter.unusedSectionVars false
set_option linter.unnecessarySimpa false
namespace Go.Proofs.Ytlekkopaeiblfaa
open Go.ChangeShapes Go.WideShapes Go.ChangeAt Go.RowKit Go.Fip
theorem own : ownKnob Try.prog.godebug = none := by kernel_rfl
theorem laid : laidOutB Try.prog = true := by kernel_rfl
section
variable {H : Type} {enc : TypeId × Value → H} {W : World} {b : Nat} {v : Value} {d : DataW H} {ps : List MemPlace}
set_option maxRecDepth 100000 in
theorem argJ (hok : Value.okWide Try.prog W .any b 22 v) (h : DataW.Trod enc Try.prog W 0 (fun _ => true) true 22 v d ps) : ∃ xs : List (Int × Int), Rd encP 2 v xs W := by
  obtain ⟨xs, hx, _⟩ := arg_pairs Try.underlying22 Try.underlying71 (by kernel_rfl) rfl rfl (by kernel_rfl) (by kernel_rfl) (by kernel_rfl) (by kernel_rfl) hok h
  exact ⟨xs, hx⟩
set_option maxRecDepth 100000 in
theorem argT (hok : Value.okWide Try.prog W .any b 23 v) (h : DataW.Trod enc Try.prog W 0 (fun _ => true) true 23 v d ps) : ∃ xs : List (Int × Int), Rd encP 2 v xs W := by
  obtain ⟨xs, hx, _⟩ := arg_pairs Try.underlying23 Try.underlying73 (by kernel_rfl) rfl rfl (by kernel_rfl) (by kernel_rfl) (by kernel_rfl) (by kernel_rfl) hok h
  exact ⟨xs, hx⟩
set_option maxRecDepth 100000 in
theorem argN (hok : Value.okWide Try.prog W .any b 39 v) (h : DataW.Trod enc Try.prog W 0 (fun _ => true) true 39 v d ps) : ∃ xs : List Int, Rd encI 1 v xs W := by
  obtain ⟨xs, hx, _⟩ := arg_ints Try.underlying39 Try.underlying3 (by kernel_rfl) hok h
  exact ⟨xs, hx⟩
set_option maxRecDepth 100000 in
theorem argB (hok : Value.okWide Try.prog W .any b 54 v) (h : DataW.Trod enc Try.prog W 0 (fun _ => true) true 54 v d ps) : ∃ xs : List Int, Rd encB 1 v xs W ∧ ∀ n ∈ xs, 0 ≤ n ∧ n ≤ 255 := by
  obtain ⟨xs, hx, hw⟩ := arg_ints Try.underlying54 Try.underlying5 (by kernel_rfl) hok h
  exact ⟨xs, hx, fun n hn => bounds_u8 (hw n hn)⟩
set_option maxRecDepth 100000 in
theorem argO (hok : Value.okWide Try.prog W .any b 41 v) (h : DataW.Trod enc Try.prog W 0 (fun _ => true) true 41 v d ps) : ∃ (x y z : Value) (X Y Z : List Int), v = .agg #[x, y, z] ∧ Rd encI 1 x X W ∧ Rd encI 1 y Y W ∧ Rd encI 1 z Z W := by
  obtain ⟨x, y, z, X, Y, Z, rfl, hX, hY, hZ, _⟩ := arg_three Try.underlying41 rfl rfl rfl Try.underlying39 Try.underlying39 Try.underlying39 Try.underlying3 (by kernel_rfl) (by kernel_rfl) (by kernel_rfl) (by kernel_rfl) (by kernel_rfl) (by kernel_rfl) hok h
  exact ⟨x, y, z, X, Y, Z, rfl, hX, hY, hZ⟩
end
set_option maxRecDepth 100000 in
theorem shopPlans_lifted (os : Os) (started : os.Started) (H : Type) (enc : TypeId × Value → H) :
    ReturnsInHanded {} Try.checked os 3 .any (Rows.shopPlansSpec.pre6 enc Try.prog Try.f3 Rows.shopPlansRow.domain false) (Rows.shopPlansSpec.post enc Try.prog Try.f3 false true false false) := by
  refine returnsInHanded_of_change (C := Try.checked) own started (by kernel_rfl) Try.func3
    (ChangeSpec.witness6 (enc := enc) (C := Try.checked) false ⟨#[], #[.slice none 0 0, .slice none 0 0, .int .i64 0], []⟩ 8 (by kernel_rfl) (by kernel_rfl) (by kernel_rfl) (by kernel_rfl)) ?_
  intro W base args ds gs before hval0 hW hcnd _
  have hval : ∀ (j : Nat) t v, Try.f3.params[j]? = some t → args[j]? = some v → Value.okWide Try.prog W .any base t v := hval0
  have hW' := hW
  obtain ⟨p, q, hA0, hV, rfl, hfz, hnd⟩ := hW
  have hA : DataW.TrodAll enc Try.prog W 0 (fun _ => true) true Try.f3.params.toList args.toList ds p := hA0
  obtain ⟨rfl, rfl⟩ := trodVars_none hV
  have hA2 := hA
  rw [Try.params3] at hA2 hval
  obtain ⟨v0, v1, v2, d0, d1, d2, p0, p1, p2, rfl, rfl, rfl, h0, h1, h2⟩ := trodAll_three hA2
  obtain ⟨js, hj⟩ := argJ (hval 0 22 v0 rfl rfl) h0
  obtain ⟨pl, hp⟩ := argT (hval 1 23 v1 rfl rfl) h1
  obtain ⟨n, rfl, rfl, rfl, w2⟩ := open_int Try.underlying3 (hval 2 3 v2 rfl rfl) h2
  refine (callsIn_wide.1 (c3 hj hp (b := n)).calls).mono fun e W' ⟨v, he, hb, hR⟩ => ?_
  have hv := hR W' (Agree.refl _ _ _)
  subst hv
  exact ⟨_, he, law_post laid hb (by kernel_rfl) rfl hW' hA (by simp) (by kernel_rfl) Try.underlying4 rfl⟩
theorem shopPlans_holds : Rows.ShopPlansSaid :=
  OpenClaim.holds_of_wide 3 Try.f3 rfl rfl rfl rfl rfl rfl rfl ⟨rfl, rfl, rfl, rfl, rfl⟩ rfl rfl rfl rfl rfl (by kernel_rfl) Try.func3 (by kernel_rfl)
    (of_decide_eq_true (by kernel_rfl)) (by unfold Func.isWrapper; first | (rw [if_pos (by decide +kernel)]; kernel_rfl) | (rw [if_neg (by decide +kernel)]; exact ⟨rfl, rfl⟩))
    (fun os started H enc _ => shopPlans_lifted os started H enc)
end Go.Proofs.Ytlekkopaeiblfaa
