/- Weights, the cost of a tree and of a best one, the first best tree, and how many there are: the statement holds for every input. -/
import Derived.Test.YtkhokmfjnjfojaaXA
import Derived.Test.YtkhokmfjnjfojaaL15
set_option linter.unusedVariables false
set_option linter.unusedSimpArgs false
set_option linter.unusedSectionVars false
set_option linter.unnecessarySimpa false
namespace Go.Proofs.Ytkhokmfjnjfojaa
open Go.ChangeShapes Go.WideShapes Go.ChangeAt Go.RowKit Go.Fip
set_option maxRecDepth 100000 in
theorem searchCosts_lifted (os : Os) (started : os.Started) (H : Type) (enc : TypeId × Value → H) :
    ReturnsInHanded {} Try.checked os 4 .any (Rows.searchCostsSpec.pre6 enc Try.prog Try.f4 Rows.searchCostsRow.domain false) (Rows.searchCostsSpec.post enc Try.prog Try.f4 false true false false) := by
  refine returnsInHanded_of_change (C := Try.checked) own started (by kernel_rfl) Try.func4
    (ChangeSpec.witness6 (enc := enc) (C := Try.checked) false ⟨#[], #[.slice none 0 0, .slice none 0 0], []⟩ 8 (by kernel_rfl) (by kernel_rfl) (by kernel_rfl) (by kernel_rfl)) ?_
  intro W base args ds gs before hval0 hW hcnd _
  have hval : ∀ (j : Nat) t v, Try.f4.params[j]? = some t → args[j]? = some v → Value.okWide Try.prog W .any base t v := hval0
  have hW' := hW
  obtain ⟨p, q, hA0, hV, rfl, hfz, hnd⟩ := hW
  have hA : DataW.TrodAll enc Try.prog W 0 (fun _ => true) true Try.f4.params.toList args.toList ds p := hA0
  obtain ⟨rfl, rfl⟩ := trodVars_none hV
  have hA2 := hA
  rw [Try.params4] at hA2 hval
  obtain ⟨v0, v1, d0, d1, p0, p1, rfl, rfl, rfl, h0, h1⟩ := trodAll_two hA2
  obtain ⟨x0, k0, g0⟩ := argW (hval 0 30 v0 rfl rfl) h0
  obtain ⟨x1, k1, g1⟩ := argL (hval 1 22 v1 rfl rfl) h1
  refine (callsIn_wide.1 (c4 k0 k1 g1).calls).mono fun e W' ⟨v, he, hb, hR⟩ => ?_
  have hv := hR W' (Agree.refl _ _ _)
  subst hv
  exact ⟨_, he, law_post laid hb (by kernel_rfl) rfl hW' hA (by simp) (by kernel_rfl) Try.underlying4 rfl⟩
theorem searchCosts_holds : Rows.SearchCostsSaid :=
  OpenClaim.holds_of_wide 4 Try.f4 rfl rfl rfl rfl rfl rfl rfl ⟨rfl, rfl, rfl, rfl, rfl⟩ rfl rfl rfl rfl rfl (by kernel_rfl) Try.func4 (by kernel_rfl)
    (of_decide_eq_true (by kernel_rfl)) (by unfold Func.isWrapper; first | (rw [if_pos (by decide +kernel)]; kernel_rfl) | (rw [if_neg (by decide +kernel)]; exact ⟨rfl, rfl⟩))
    (fun os started H enc _ => searchCosts_lifted os started H enc)
end Go.Proofs.Ytkhokmfjnjfojaa
